import PyProof.Rows.All
import Wide.All
import OpenK.AllK
import Wide.FinOn
import PySem.Challenge.RW_amendwarrant_k21_references_of_bodies
import HandS.ForMost
import HandS.Exc
import HandS.ExcOwn
import HandS.ExcInit
import HandS.ExcField
import HandS.TryOnly
import HandS.WordsExc
import KE.KeyNested
import HandS.TupAny
import HandS.Deep
import HandS.IsInst
import HandS.Wide
import KE.DataCmp
import KE.SortData
import HandS.TupLen
import HandS.More
import HandS.Flow
import HandS.TupLe
import HandS.Small
import HandS.Style
import HandS.Conv
import HandS.Codes
import HandS.Iter
import HandS.Dict
import HandS.Zip
import KE.GoesMore
import KE.GoesZip
import KE.KTurns
import HandS.SetFor
import HandS.Strs
import HandS.SetKeys
import HandS.ListItems
import HandS.DictTup
import KE.KEqNest
import KE.DataMinMax
import PyProof.SeqIndex
import KE.KDictPairs
import KE.DataFind
import HandS.SortKw
import KE.SortKeyHeap
import PyProof.ListStr
import HandS.TupMul
import HandS.Text
import HandS.StrSplit
set_option Elab.async false
set_option linter.all false
set_option maxRecDepth 100000
/-! DL: a layer of plain data over the hand layer. -/
namespace DL
open PySem PySem.Spec PyProof.Rows L2
abbrev SS := L2.St
/-- the module's fragment and the world -/
structure KW where
  k : PySem.W.Frag
  w : World
instance : CoeOut KW PySem.W.Frag := ⟨KW.k⟩
end DL
abbrev L2.Cx.kw (X : L2.Cx) : DL.KW := ⟨X.K, X.w⟩
namespace DL
open PySem PySem.Spec PyProof.Rows L2
abbrev D := PyData
/-- what a slot holds: nothing known, a value for good, a list or dict that this slot alone holds, one that is being walked -/
inductive Sl where
  | em | fz (d : D) | ow (d : D) | lk (d : D)
/-- what an expression gives: a value for good, a new list or dict, what slot i holds -/
inductive Rs where
  | fz (d : D) | ow (d : D) | nm (i : Nat)
inductive R (α : Type) where
  | ok (a : α) (ρ : List Sl) | bad
abbrev M (α : Type) := List Sl → R α
def bd {α β : Type} (m : M α) (k : α → M β) : M β := fun ρ => match m ρ with
  | .ok a ρ' => k a ρ'
  | .bad => .bad
def pr {α : Type} (a : α) : M α := fun ρ => .ok a ρ
def opt {α : Type} (o : Option α) : M α := fun ρ => match o with
  | some a => .ok a ρ
  | none => .bad
/-- an exception: its class, a field of it and what that holds -/
structure Xn where
  C : Str
  n : Str
  p : D
inductive SR where
  | nx (ρ : List Sl) | rt (r : Rs) (ρ : List Sl) | bk (ρ : List Sl) | ct (ρ : List Sl) | bad (x : Option (Xn × List Sl))
abbrev DS := List Sl → SR
/-! ### values -/
def kD : Key → D
  | .inl i => .int i
  | .inr x => .str x
/-- a tuple that has no dict of its own -/
def TupD (K : KW) (F : Hp) (a : Addr) (xs : List V) : Prop := (∃ o, F a = some (.frz o (.tup xs)) ∧ o.dict = none) ∨
  ∃ (o : Obj) (its : Array Value) (n : Nat), K.k.lookup a = some o ∧ o.cls = .type "tuple" ∧ o.dict = none ∧ o.data = .seq its n ∧ its.size ≤ sizeLine ∧ Vals xs its.toList
theorem TupD.sq {K : KW} {F : Hp} {a : Addr} {xs : List V} (h : TupD K F a xs) : SqT K.k F a xs := by
  rcases h with ⟨o, h, _⟩ | ⟨o, its, n, h1, h2, _, h3, h4⟩
  · exact .inl (.inr ⟨o, h⟩)
  · exact .inr ⟨o, its, n, h1, h2, h3, h4⟩
theorem tupD_mono {K : KW} {F F' : Hp} {a : Addr} {xs : List V} (e : Same F F') (h : TupD K F a xs) : TupD K F' a xs := by
  rcases h with ⟨o, h, q⟩ | h
  · exact .inl ⟨o, e _ _ h, q⟩
  · exact .inr h
/-! dicts whose keys are tuples -/
abbrev NK := NestedKey
abbrev kN : NK → D := NestedKey.data
def RawX (w : World) (a : Addr) (xs : List (NK × Addr × V)) (h : Heap) : Prop := xs.length ≤ sizeLine ∧ (∀ x ∈ xs, x.1.depth ≤ 8) ∧ (a == sysModules) = false ∧ ∃ us : List (NK × Addr × Value),
  Paired (fun (p : NK × Addr × V) (q : NK × Addr × Value) => p.1 = q.1 ∧ p.2.1 = q.2.1 ∧ RelV p.2.2 q.2.2) xs us ∧
  ∃ o es ep, h.get? a = some o ∧ o.ExactDict ∧ o.data = .dict es ep ∧ es.toList = us.map (fun x => ⟨x.1.hash w, .ref x.2.1, x.2.2⟩) ∧ (us.map (·.1)).Nodup
def dX (w : World) (a : Addr) (xs : List (NK × Addr × V)) : HO := .ext (RawX w a xs)
def tagT (ks : List NK) (ds : List D) : List (D × D) := (.none, .none) :: List.zip (ks.map kN) ds
def isK : List (D × D) → Bool
  | (.none, _) :: _ => false
  | _ => true
theorem isK_tag {ks : List NK} {ds : List D} : isK (tagT ks ds) = false := rfl
mutual
inductive Rp (K : KW) (F : Hp) : V → D → Prop
  | non : Rp K F .non .none
  | bl (b : Bool) : Rp K F (.bl b) (.bool b)
  | int (i : Int) : Rp K F (.int i) (.int i)
  | str (x : Str) : Rp K F (.str x) (.str x)
  | lst {a : Addr} {xs : List V} {ds : List D} : Rd F a (.lst xs) → RpA K F xs ds → Rp K F (.ref a) (.list ds)
  | tup {a : Addr} {xs : List V} {ds : List D} : TupD K F a xs → RpA K F xs ds → Rp K F (.ref a) (.tuple ds)
  | tdct {a : Addr} {xs : List (NK × Addr × V)} {ds : List D} : Rd F a (dX K.w a xs) → RpA K F (xs.map fun x => V.ref x.2.1) (xs.map fun x => kN x.1) → RpA K F (xs.map fun x => x.2.2) ds → Rp K F (.ref a) (.dict (tagT (xs.map (·.1)) ds))
  | dct {a : Addr} {kvs : List (Key × V)} {ds : List (D × D)} : Rd F a (.dK kvs) → RpK K F kvs ds → Rp K F (.ref a) (.dict ds)
inductive RpA (K : KW) (F : Hp) : List V → List D → Prop
  | nil : RpA K F [] []
  | cons {v : V} {vs : List V} {d : D} {ds : List D} : Rp K F v d → RpA K F vs ds → RpA K F (v :: vs) (d :: ds)
inductive RpK (K : KW) (F : Hp) : List (Key × V) → List (D × D) → Prop
  | nil : RpK K F [] []
  | cons {k : Key} {v : V} {vs : List (Key × V)} {d : D} {ds : List (D × D)} : Rp K F v d → RpK K F vs ds → RpK K F ((k, v) :: vs) ((kD k, d) :: ds)
end
theorem rd_mono {F F' : Hp} {a : Addr} {u : HO} (e : Same F F') (h : Rd F a u) : Rd F' a u := by
  rcases h with h | ⟨o, h⟩
  · exact .inl (e _ _ h)
  · exact .inr ⟨o, e _ _ h⟩
theorem sqT_mono {K : KW} {F F' : Hp} {a : Addr} {xs : List V} (e : Same F F') (h : SqT K F a xs) : SqT K F' a xs := by
  rcases h with (h | ⟨o, h⟩) | h
  · exact .inl (.inl (e _ _ h))
  · exact .inl (.inr ⟨o, e _ _ h⟩)
  · exact .inr h
mutual
theorem Rp.mono {K : KW} {F F' : Hp} (e : Same F F') : ∀ {v : V} {d : D}, Rp K F v d → Rp K F' v d
  | _, _, .non => .non
  | _, _, .bl b => .bl b
  | _, _, .int i => .int i
  | _, _, .str x => .str x
  | _, _, .lst h t => .lst (rd_mono e h) (RpA.mono e t)
  | _, _, .tup h t => .tup (tupD_mono e h) (RpA.mono e t)
  | _, _, .tdct h t u => .tdct (rd_mono e h) (RpA.mono e t) (RpA.mono e u)
  | _, _, .dct h t => .dct (rd_mono e h) (RpK.mono e t)
theorem RpA.mono {K : KW} {F F' : Hp} (e : Same F F') : ∀ {v : List V} {d : List D}, RpA K F v d → RpA K F' v d
  | _, _, .nil => .nil
  | _, _, .cons h t => .cons (Rp.mono e h) (RpA.mono e t)
theorem RpK.mono {K : KW} {F F' : Hp} (e : Same F F') : ∀ {v : List (Key × V)} {d : List (D × D)}, RpK K F v d → RpK K F' v d
  | _, _, .nil => .nil
  | _, _, .cons h t => .cons (Rp.mono e h) (RpK.mono e t)
end
section
variable {K : KW} {F F' H H' : Hp}
theorem RpA.length : ∀ {vs : List V} {ds : List D}, RpA K F vs ds → vs.length = ds.length
  | _, _, .nil => rfl
  | _, _, .cons _ t => by rw [List.length_cons, List.length_cons, t.length]
theorem RpA.get : ∀ {vs : List V} {ds : List D} {i : Nat} {v : V} {d : D}, RpA K F vs ds → vs[i]? = some v → ds[i]? = some d → Rp K F v d
  | _, _, _, _, _, .nil, h, _ => by simp at h
  | _, _, 0, _, _, .cons h _, e, e' => by
    simp at e e'
    rw [← e, ← e']; exact h
  | _, _, i + 1, _, _, .cons _ t, e, e' => t.get (i := i) (by simpa using e) (by simpa using e')
theorem RpA.app : ∀ {vs vs' : List V} {ds ds' : List D}, RpA K F vs ds → RpA K F vs' ds' → RpA K F (vs ++ vs') (ds ++ ds')
  | _, _, _, _, .nil, h => h
  | _, _, _, _, .cons h t, h' => .cons h (t.app h')
theorem RpA.one {v : V} {d : D} (h : Rp K F v d) : RpA K F [v] [d] := .cons h .nil
theorem RpA.drop : ∀ {vs : List V} {ds : List D} (n : Nat), RpA K F vs ds → RpA K F (vs.drop n) (ds.drop n)
  | _, _, 0, h => h
  | _, _, _ + 1, .nil => .nil
  | _, _, n + 1, .cons _ t => t.drop n
theorem RpA.take : ∀ {vs : List V} {ds : List D} (n : Nat), RpA K F vs ds → RpA K F (vs.take n) (ds.take n)
  | _, _, 0, _ => .nil
  | _, _, _ + 1, .nil => .nil
  | _, _, n + 1, .cons h t => .cons h (t.take n)
theorem RpA.set {i : Nat} {v : V} {d : D} (h : Rp K F v d) : ∀ {vs : List V} {ds : List D} (i : Nat), RpA K F vs ds → RpA K F (vs.set i v) (ds.set i d)
  | _, _, _, .nil => .nil
  | _, _, 0, .cons _ t => .cons h t
  | _, _, i + 1, .cons q t => .cons q (RpA.set (i := i) h i t)
theorem RpA.erase : ∀ {vs : List V} {ds : List D} (i : Nat), RpA K F vs ds → RpA K F (vs.eraseIdx i) (ds.eraseIdx i)
  | _, _, _, .nil => .nil
  | _, _, 0, .cons _ t => t
  | _, _, i + 1, .cons q t => .cons q (t.erase i)
theorem RpA.ints : ∀ {vs : List V} {ns : List Int}, RpA K F vs (ns.map .int) → vs = ns.map .int
  | _, [], h => by cases h; rfl
  | _, n :: ns, h => by
    cases h with
    | cons h t => cases h; rw [List.map_cons, t.ints]
theorem RpA.of_ints : ∀ (ns : List Int), RpA K F (ns.map .int) (ns.map .int)
  | [] => .nil
  | n :: ns => .cons (.int n) (RpA.of_ints ns)
theorem RpA.bools : ∀ {vs : List V} {ns : List Bool}, RpA K F vs (ns.map .bool) → vs = ns.map .bl
  | _, [], h => by cases h; rfl
  | _, n :: ns, h => by
    cases h with
    | cons h t => cases h; rw [List.map_cons, t.bools]
theorem RpK.length : ∀ {vs : List (Key × V)} {ds : List (D × D)}, RpK K F vs ds → vs.length = ds.length
  | _, _, .nil => rfl
  | _, _, .cons _ t => by rw [List.length_cons, List.length_cons, t.length]
theorem isK_rp {kvs : List (Key × V)} {ds : List (D × D)} (h : RpK K F kvs ds) : isK ds = true := by
  cases h with
  | nil => rfl
  | cons h t => rename_i k _ _ _ _; cases k <;> rfl
/-- the dict with tuple keys at a, as it stands now -/
def ObT (K : KW) (F H : Hp) (a : Addr) (ds : List (D × D)) : Prop := ∃ (xs : List (NK × Addr × V)) (es : List D), H a = some (dX K.w a xs) ∧ RpA K F (xs.map fun x => V.ref x.2.1) (xs.map fun x => kN x.1) ∧ RpA K F (xs.map fun x => x.2.2) es ∧ ds = tagT (xs.map (·.1)) es
/-- the list or dict at a, as it stands now -/
def Ob (K : KW) (F H : Hp) (a : Addr) : D → Prop
  | .list ds => ∃ vs, H a = some (.lst vs) ∧ RpA K F vs ds
  | .dict ds => (∃ kvs, H a = some (.dK kvs) ∧ RpK K F kvs ds) ∨ ObT K F H a ds
  | _ => False
theorem Ob.some {a : Addr} {d : D} (h : Ob K F H a d) : ∃ o, H a = some o := by
  cases d with
  | list ds => obtain ⟨vs, e, _⟩ := h; exact ⟨_, e⟩
  | dict ds =>
    rcases h with ⟨vs, e, _⟩ | ⟨xs, es, e, _⟩
    · exact ⟨_, e⟩
    · exact ⟨_, e⟩
  | _ => exact h.elim
theorem Ob.ne {a : Addr} {d : D} (h : Ob K F H a d) : H a ≠ none := by
  obtain ⟨o, e⟩ := h.some
  rw [e]; exact fun z => nomatch z
theorem Ob.mono {a : Addr} {d : D} (h : Ob K F H a d) (e : Same F F') (eh : H' a = H a) : Ob K F' H' a d := by
  cases d with
  | list ds => obtain ⟨vs, q, r⟩ := h; exact ⟨vs, eh.trans q, r.mono e⟩
  | dict ds =>
    rcases h with ⟨vs, q, r⟩ | ⟨xs, es, q, r1, r2, r3⟩
    · exact .inl ⟨vs, eh.trans q, r.mono e⟩
    · exact .inr ⟨xs, es, eh.trans q, r1.mono e, r2.mono e, r3⟩
  | _ => exact h.elim
/-- frozen: the object is among the frozen ones -/
theorem Ob.rp {a : Addr} {d : D} (h : Ob K F H a d) (e : Same F F') (ef : F' a = H a) : Rp K F' (.ref a) d := by
  cases d with
  | list ds => obtain ⟨vs, q, r⟩ := h; exact .lst (.inl (ef.trans q)) (r.mono e)
  | dict ds =>
    rcases h with ⟨vs, q, r⟩ | ⟨xs, es, q, r1, r2, r3⟩
    · exact .dct (.inl (ef.trans q)) (r.mono e)
    · subst r3; exact .tdct (.inl (ef.trans q)) (r1.mono e) (r2.mono e)
  | _ => exact h.elim
/-! ### the state -/
def SltR (K : KW) (F H : Hp) (ov : Option (Option V)) : Sl → Prop
  | .em => True
  | .fz d => ∃ v, ov = some (some v) ∧ Rp K F v d
  | .ow d => ∃ a, ov = some (some (.ref a)) ∧ F a = none ∧ Ob K F H a d
  | .lk d => ∃ a, ov = some (some (.ref a)) ∧ F a = none ∧ Ob K F H a d
def OwAt (σ : SS) (ρ : List Sl) (i : Nat) (a : Addr) : Prop := σ[i]? = some (some (.ref a)) ∧ ∃ d, ρ[i]? = some (.ow d)
def LkAt (σ : SS) (ρ : List Sl) (i : Nat) (a : Addr) : Prop := σ[i]? = some (some (.ref a)) ∧ ∃ d, ρ[i]? = some (.lk d)
def HdAt (σ : SS) (ρ : List Sl) (i : Nat) (a : Addr) : Prop := OwAt σ ρ i a ∨ LkAt σ ρ i a
structure Sta (K : KW) (F H : Hp) (σ : SS) (ρ : List Sl) : Prop where
  le : Same F H
  len : σ.length = ρ.length
  sl : ∀ (i : Nat) (s : Sl), ρ[i]? = some s → SltR K F H σ[i]? s
  dj : ∀ (i j : Nat) (a : Addr), HdAt σ ρ i a → HdAt σ ρ j a → i = j
structure Ext (K : KW) (F H : Hp) (σ : SS) (ρ : List Sl) (F' H' : Hp) (σ' : SS) (ρ' : List Sl) : Prop where
  st : Sta K F' H' σ' ρ'
  fr : Same F F'
  kp : ∀ b o, H b = some o → (∀ i, ¬ OwAt σ ρ i b) → H' b = some o
  nf : ∀ b, H b ≠ none → (∀ i, ¬ HdAt σ ρ i b) → F b = none → F' b = none
  gr : ∀ b, H b ≠ none → H' b ≠ none
  ow : ∀ i b, OwAt σ' ρ' i b → OwAt σ ρ i b ∨ H b = none
  lk : ∀ i b, LkAt σ' ρ' i b → HdAt σ ρ i b ∨ H b = none
section
variable {σ σ' σ2 : SS} {ρ ρ' ρ2 : List Sl} {F2 H2 : Hp}
theorem Sta.held (h : Sta K F H σ ρ) {i : Nat} {a : Addr} (e : HdAt σ ρ i a) : F a = none ∧ ∃ d, Ob K F H a d := by
  rcases e with ⟨e, d, q⟩ | ⟨e, d, q⟩
  · obtain ⟨b, e1, e2, e3⟩ := h.sl i _ q
    rw [e] at e1; cases e1
    exact ⟨e2, d, e3⟩
  · obtain ⟨b, e1, e2, e3⟩ := h.sl i _ q
    rw [e] at e1; cases e1
    exact ⟨e2, d, e3⟩
theorem Ext.refl (h : Sta K F H σ ρ) : Ext K F H σ ρ F H σ ρ :=
  ⟨h, Same.refl _, fun _ _ e _ => e, fun _ _ _ e => e, fun _ e => e, fun _ _ e => .inl e, fun _ _ e => .inl (.inr e)⟩
theorem Ext.hd (x : Ext K F H σ ρ F' H' σ' ρ') {i : Nat} {b : Addr} (h : HdAt σ' ρ' i b) : HdAt σ ρ i b ∨ H b = none := by
  rcases h with h | h
  · exact (x.ow i b h).imp .inl id
  · exact x.lk i b h
theorem Ext.back (x : Ext K F H σ ρ F' H' σ' ρ') {b : Addr} (h : H' b = none) : H b = none := by
  cases e : H b with
  | none => rfl
  | some o => exact absurd h (x.gr b (by rw [e]; exact fun z => nomatch z))
theorem Ext.trans (x : Ext K F H σ ρ F' H' σ' ρ') (y : Ext K F' H' σ' ρ' F2 H2 σ2 ρ2) : Ext K F H σ ρ F2 H2 σ2 ρ2 where
  st := y.st
  fr := x.fr.trans y.fr
  kp := fun b o e n => y.kp b o (x.kp b o e n) fun i q => by
    rcases x.ow i b q with z | z
    · exact n i z
    · rw [z] at e; cases e
  nf := fun b e n q => y.nf b (x.gr b e) (fun i z => by
    rcases x.hd z with z | z
    · exact n i z
    · exact e z) (x.nf b e n q)
  gr := fun b e => y.gr b (x.gr b e)
  ow := fun i b q => by
    rcases y.ow i b q with z | z
    · exact x.ow i b z
    · exact .inr (x.back z)
  lk := fun i b q => by
    rcases y.lk i b q with z | z
    · exact x.hd z
    · exact .inr (x.back z)
/-! ### results -/
def RsR (K : KW) (H₀ F H : Hp) (σ : SS) (ρ : List Sl) (v : V) : Rs → Prop
  | .fz d => Rp K F v d
  | .ow d => ∃ a, v = .ref a ∧ H₀ a = none ∧ F a = none ∧ Ob K F H a d ∧ ∀ i, ¬ HdAt σ ρ i a
  | .nm i => σ[i]? = some (some v)
theorem RsR.ext {H₀ : Hp} {v : V} {r : Rs} (h : RsR K H₀ F H σ ρ v r) (x : Ext K F H σ ρ F' H' σ ρ') : RsR K H₀ F' H' σ ρ' v r := by
  cases r with
  | fz d => exact Rp.mono x.fr h
  | nm i => exact h
  | ow d =>
    obtain ⟨a, e, h0, hf, ho, hd⟩ := h
    obtain ⟨o, eo⟩ := ho.some
    have ek := x.kp a o eo fun i q => hd i (.inl q)
    refine ⟨a, e, h0, x.nf a ho.ne hd hf, ho.mono x.fr (ek.trans eo.symm), fun i q => ?_⟩
    rcases x.hd q with z | z
    · exact hd i z
    · exact ho.ne z
theorem RsR.base {H₀ H₁ : Hp} {v : V} {r : Rs} (h : RsR K H₁ F H σ ρ v r) (b : ∀ a, H₁ a = none → H₀ a = none) : RsR K H₀ F H σ ρ v r := by
  cases r with
  | fz d => exact h
  | nm i => exact h
  | ow d =>
    obtain ⟨a, e, h0, q⟩ := h
    exact ⟨a, e, b a h0, q⟩
/-! ### reading and freezing what a result is -/
def look (r : Rs) : M D := fun ρ => match r with
  | .fz d => .ok d ρ
  | .ow d => .ok d ρ
  | .nm i => match ρ[i]? with
    | some (.fz d) => .ok d ρ
    | some (.ow d) => .ok d ρ
    | some (.lk d) => .ok d ρ
    | _ => .bad
def frz (r : Rs) : M D := fun ρ => match r with
  | .fz d => .ok d ρ
  | .ow d => .ok d ρ
  | .nm i => match ρ[i]? with
    | some (.fz d) => .ok d ρ
    | some (.ow d) => .ok d (ρ.set i (.fz d))
    | some (.lk d) => .ok d (ρ.set i (.fz d))
    | _ => .bad
/-- v reads as d now -/
def Vw (K : KW) (F H : Hp) (v : V) (d : D) : Prop := Rp K F v d ∨ ∃ a, v = .ref a ∧ Ob K F H a d
theorem look_ok {H₀ : Hp} {v : V} {r : Rs} {d : D} (s : Sta K F H σ ρ) (h : RsR K H₀ F H σ ρ v r) (e : look r ρ = .ok d ρ') : ρ' = ρ ∧ Vw K F H v d := by
  cases r with
  | fz d' => cases e; exact ⟨rfl, .inl h⟩
  | ow d' => obtain ⟨a, e1, _, _, ho, _⟩ := h; cases e; exact ⟨rfl, .inr ⟨a, e1, ho⟩⟩
  | nm i =>
    have h : σ[i]? = some (some v) := h
    unfold look at e
    simp only at e
    cases q : ρ[i]? with
    | none => rw [q] at e; cases e
    | some sl =>
      rw [q] at e
      have z := s.sl i sl q
      cases sl with
      | em => cases e
      | fz d' =>
        cases e
        obtain ⟨w, e1, e2⟩ := z
        rw [h] at e1; cases e1
        exact ⟨rfl, .inl e2⟩
      | ow d' =>
        cases e
        obtain ⟨a, e1, e2, e3⟩ := z
        rw [h] at e1; cases e1
        exact ⟨rfl, .inr ⟨a, rfl, e3⟩⟩
      | lk d' =>
        cases e
        obtain ⟨a, e1, e2, e3⟩ := z
        rw [h] at e1; cases e1
        exact ⟨rfl, .inr ⟨a, rfl, e3⟩⟩
theorem same_upd {H : Hp} {p : Addr} {o : HO} (h : H p = none) : Same H (upd H p o) := fun b x e => by
  rw [upd_ne (ne_of_none e h)]
  exact e
theorem same_upd_le {F H : Hp} {p : Addr} {o : HO} (s : Same F H) (e : H p = some o) : Same (upd F p o) H := fun b x q => by
  by_cases hb : b = p
  · subst hb; rw [upd_same] at q; cases q; exact e
  · rw [upd_ne hb] at q; exact s b x q
/-- one held slot is frozen -/
theorem Ext.freeze {F₀ H₀ : Hp} {ρ₀ : List Sl} {i : Nat} {a : Addr} {d : D} {s : Sl} (x : Ext K F₀ H₀ σ' ρ₀ F H σ ρ) (hσ : σ[i]? = some (some (.ref a))) (hρ : ρ[i]? = some s) (hs : s = .ow d ∨ s = .lk d) :
    ∃ F', Ext K F₀ H₀ σ' ρ₀ F' H σ (ρ.set i (.fz d)) ∧ Rp K F' (.ref a) d := by
  have hd : HdAt σ ρ i a := by
    rcases hs with e | e
    · exact .inl ⟨hσ, d, by rw [hρ, e]⟩
    · exact .inr ⟨hσ, d, by rw [hρ, e]⟩
  obtain ⟨hf, ho⟩ : F a = none ∧ Ob K F H a d := by
    have z := x.st.sl i s hρ
    rcases hs with e | e <;> subst e <;> obtain ⟨b, e1, e2, e3⟩ := z <;> rw [hσ] at e1 <;> cases e1 <;> exact ⟨e2, e3⟩
  obtain ⟨o, eo⟩ := ho.some
  have sm : Same F (upd F a o) := same_upd hf
  have hi : i < ρ.length := by
    rcases Nat.lt_or_ge i ρ.length with z | z
    · exact z
    · rw [List.getElem?_eq_none z] at hρ; cases hρ
  have rp : Rp K (upd F a o) (.ref a) d := ho.rp sm (by rw [upd_same, eo])
  have back : ∀ j b, HdAt σ (ρ.set i (.fz d)) j b → HdAt σ ρ j b ∧ j ≠ i := fun j b q => by
    rcases q with ⟨e, d', q⟩ | ⟨e, d', q⟩
    · by_cases hj : i = j
      · subst hj; rw [List.getElem?_set_self hi] at q; cases q
      · rw [List.getElem?_set_ne hj] at q; exact ⟨.inl ⟨e, d', q⟩, fun z => hj z.symm⟩
    · by_cases hj : i = j
      · subst hj; rw [List.getElem?_set_self hi] at q; cases q
      · rw [List.getElem?_set_ne hj] at q; exact ⟨.inr ⟨e, d', q⟩, fun z => hj z.symm⟩
  have backO : ∀ j b, OwAt σ (ρ.set i (.fz d)) j b → OwAt σ ρ j b := fun j b ⟨e, d', q⟩ => by
    by_cases hj : i = j
    · subst hj; rw [List.getElem?_set_self hi] at q; cases q
    · rw [List.getElem?_set_ne hj] at q; exact ⟨e, d', q⟩
  have backL : ∀ j b, LkAt σ (ρ.set i (.fz d)) j b → LkAt σ ρ j b := fun j b ⟨e, d', q⟩ => by
    by_cases hj : i = j
    · subst hj; rw [List.getElem?_set_self hi] at q; cases q
    · rw [List.getElem?_set_ne hj] at q; exact ⟨e, d', q⟩
  refine ⟨upd F a o, ⟨⟨same_upd_le x.st.le eo, by rw [List.length_set]; exact x.st.len, fun j sl q => ?_, fun j k b h1 h2 => x.st.dj j k b (back j b h1).1 (back k b h2).1⟩, x.fr.trans sm, x.kp, fun b e n q => ?_, x.gr, fun j b q => x.ow j b (backO j b q), fun j b q => x.lk j b (backL j b q)⟩, rp⟩
  · by_cases hj : i = j
    · subst hj
      rw [List.getElem?_set_self hi] at q; cases q
      exact ⟨_, hσ, rp⟩
    · have q' := q
      rw [List.getElem?_set_ne hj] at q
      have z := x.st.sl j sl q
      cases sl with
      | em => trivial
      | fz d' => obtain ⟨w, e1, e2⟩ := z; exact ⟨w, e1, e2.mono sm⟩
      | ow d' =>
        obtain ⟨b, e1, e2, e3⟩ := z
        have hb : b ≠ a := fun z => by
          subst z
          exact hj (x.st.dj i j _ hd (.inl ⟨e1, d', q⟩))
        exact ⟨b, e1, by rw [upd_ne hb]; exact e2, e3.mono sm rfl⟩
      | lk d' =>
        obtain ⟨b, e1, e2, e3⟩ := z
        have hb : b ≠ a := fun z => by
          subst z
          exact hj (x.st.dj i j _ hd (.inr ⟨e1, d', q⟩))
        exact ⟨b, e1, by rw [upd_ne hb]; exact e2, e3.mono sm rfl⟩
  · have z := x.nf b e n q
    by_cases hb : b = a
    · subst hb
      rcases x.hd hd with y | y
      · exact absurd y (n i)
      · exact absurd y e
    · rw [upd_ne hb]; exact z
/-- a new object is frozen -/
theorem Ext.freezeNew {F₀ H₀ : Hp} {ρ₀ : List Sl} {a : Addr} {d : D} (x : Ext K F₀ H₀ σ' ρ₀ F H σ ρ) (h0 : H₀ a = none) (hf : F a = none) (ho : Ob K F H a d) (hn : ∀ i, ¬ HdAt σ ρ i a) :
    ∃ F', Ext K F₀ H₀ σ' ρ₀ F' H σ ρ ∧ Rp K F' (.ref a) d ∧ Same F F' ∧ ∀ b, b ≠ a → F' b = F b := by
  obtain ⟨o, eo⟩ := ho.some
  have sm : Same F (upd F a o) := same_upd hf
  have rp : Rp K (upd F a o) (.ref a) d := ho.rp sm (by rw [upd_same, eo])
  refine ⟨upd F a o, ⟨⟨same_upd_le x.st.le eo, x.st.len, fun j sl q => ?_, x.st.dj⟩, x.fr.trans sm, x.kp, fun b e n q => ?_, x.gr, x.ow, x.lk⟩, rp, sm, fun b hb => upd_ne hb⟩
  · have z := x.st.sl j sl q
    cases sl with
    | em => trivial
    | fz d' => obtain ⟨w, e1, e2⟩ := z; exact ⟨w, e1, e2.mono sm⟩
    | ow d' =>
      obtain ⟨b, e1, e2, e3⟩ := z
      have hb : b ≠ a := fun z => by subst z; exact hn j (.inl ⟨e1, d', q⟩)
      exact ⟨b, e1, by rw [upd_ne hb]; exact e2, e3.mono sm rfl⟩
    | lk d' =>
      obtain ⟨b, e1, e2, e3⟩ := z
      have hb : b ≠ a := fun z => by subst z; exact hn j (.inr ⟨e1, d', q⟩)
      exact ⟨b, e1, by rw [upd_ne hb]; exact e2, e3.mono sm rfl⟩
  · have z := x.nf b e n q
    by_cases hb : b = a
    · subst hb; exact absurd h0 e
    · rw [upd_ne hb]; exact z
theorem frz_ok {F₀ H₀ : Hp} {ρ₀ : List Sl} {v : V} {r : Rs} {d : D} (x : Ext K F₀ H₀ σ' ρ₀ F H σ ρ) (h : RsR K H₀ F H σ ρ v r) (e : frz r ρ = .ok d ρ') :
    ∃ F', Ext K F₀ H₀ σ' ρ₀ F' H σ ρ' ∧ Rp K F' v d := by
  cases r with
  | fz d' => cases e; exact ⟨F, x, h⟩
  | ow d' =>
    obtain ⟨a, e1, h0, hf, ho, hn⟩ := h
    cases e
    subst e1
    obtain ⟨F', x', rp, _⟩ := x.freezeNew h0 hf ho hn
    exact ⟨F', x', rp⟩
  | nm i =>
    have h : σ[i]? = some (some v) := h
    unfold frz at e
    simp only at e
    cases q : ρ[i]? with
    | none => rw [q] at e; cases e
    | some sl =>
      rw [q] at e
      have z := x.st.sl i sl q
      cases sl with
      | em => cases e
      | fz d' =>
        cases e
        obtain ⟨w, e1, e2⟩ := z
        rw [h] at e1; cases e1
        exact ⟨F, x, e2⟩
      | ow d' =>
        cases e
        obtain ⟨a, e1, e2, e3⟩ := z
        rw [h] at e1; cases e1
        exact x.freeze h q (.inl rfl)
      | lk d' =>
        cases e
        obtain ⟨a, e1, e2, e3⟩ := z
        rw [h] at e1; cases e1
        exact x.freeze h q (.inr rfl)
end
end
end DL
namespace DL
open PySem PySem.Spec PyProof.Rows L2
theorem peWeak {X : Cx} {e : Expr} {t t' : TE} (h : PE X e t) (w : ∀ σ H Q, t' σ H Q → t σ H Q) : PE X e t' :=
  ⟨fun pins s σ H Q I q => h.run pins s σ H Q I (w σ H Q q)⟩
theorem ptWeak {X : Cx} {e : Expr} {t t' : TT} (h : PT X e t) (w : ∀ σ H Q, t' σ H Q → t σ H Q) : PT X e t' :=
  ⟨fun pins s σ H Q I q => h.run pins s σ H Q I (w σ H Q q)⟩
theorem psWeak {X : Cx} {e : Stmt} {t t' : TS} (h : PS X e t) (w : ∀ D σ H, t' D σ H → t D σ H) : PS X e t' :=
  ⟨fun pins s σ H D I q => h.run pins s σ H D I (w D σ H q)⟩
theorem pssWeak {X : Cx} {e : List Stmt} {t t' : TS} (h : PSs X e t) (w : ∀ D σ H, t' D σ H → t D σ H) : PSs X e t' :=
  ⟨fun pins s σ H D I q => h.run pins s σ H D I (w D σ H q)⟩
theorem paWeak {X : Cx} {e : List Expr} {t t' : TA} (h : PA X e t) (w : ∀ σ H Q, t' σ H Q → t σ H Q) : PA X e t' :=
  ⟨fun pos pins s σ H Q I q => h.run pos pins s σ H Q I (w σ H Q q)⟩
/-! ### readings by a function of slots -/
def tSem (K : KW) (f : M Rs) : TE := fun σ H Q => ∃ F ρ r ρ', Sta K F H σ ρ ∧ f ρ = .ok r ρ' ∧ ∀ F' H' v, Ext K F H σ ρ F' H' σ ρ' → RsR K H F' H' σ ρ' v r → Q v H'
def tSemT (K : KW) (f : M Bool) : TT := fun σ H Q => ∃ F ρ r ρ', Sta K F H σ ρ ∧ f ρ = .ok r ρ' ∧ ∀ F' H', Ext K F H σ ρ F' H' σ ρ' → Q r H'
/-- several results, the new ones apart -/
structure RsA (K : KW) (H₀ F H : Hp) (σ : SS) (ρ : List Sl) (vs : List V) (rs : List Rs) : Prop where
  len : vs.length = rs.length
  at_ : ∀ (i : Nat) (v : V) (r : Rs), vs[i]? = some v → rs[i]? = some r → RsR K H₀ F H σ ρ v r
  dj : ∀ (i j : Nat) (a : Addr) (d e : D), vs[i]? = some (.ref a) → rs[i]? = some (.ow d) → vs[j]? = some (.ref a) → rs[j]? = some (.ow e) → i = j
def tSemA (K : KW) (f : M (List Rs)) : TA := fun σ H Q => ∃ F ρ r ρ', Sta K F H σ ρ ∧ f ρ = .ok r ρ' ∧ ∀ F' H' v, Ext K F H σ ρ F' H' σ ρ' → RsA K H F' H' σ ρ' v r → Q v H'
theorem bd_ok {α β : Type} {m : M α} {k : α → M β} {ρ ρ2 : List Sl} {b : β} (h : bd m k ρ = .ok b ρ2) : ∃ a ρ1, m ρ = .ok a ρ1 ∧ k a ρ1 = .ok b ρ2 := by
  unfold bd at h
  cases e : m ρ with
  | ok a ρ1 => rw [e] at h; exact ⟨a, ρ1, rfl, h⟩
  | bad => rw [e] at h; cases h
theorem opt_ok {α : Type} {o : Option α} {ρ ρ' : List Sl} {a : α} (h : opt o ρ = .ok a ρ') : o = some a ∧ ρ' = ρ := by
  unfold opt at h
  cases o with
  | none => cases h
  | some b => cases h; exact ⟨rfl, rfl⟩
theorem pr_ok {α : Type} {a b : α} {ρ ρ' : List Sl} (h : pr a ρ = .ok b ρ') : b = a ∧ ρ' = ρ := by
  unfold pr at h; cases h; exact ⟨rfl, rfl⟩
section
variable {K : KW} {F H F' H' : Hp} {σ : SS} {ρ ρ' : List Sl}
/-! ### what a built-in may do: the heap grows -/
structure Grow (F H F' H' : Hp) : Prop where
  fr : Same F F'
  le : Same F' H'
  kp : Same H H'
  nf : ∀ b, H b ≠ none → F b = none → F' b = none
theorem Grow.refl (h : Same F H) : Grow F H F H := ⟨Same.refl _, h, Same.refl _, fun _ _ e => e⟩
theorem Grow.trans {F2 H2 : Hp} (a : Grow F H F' H') (b : Grow F' H' F2 H2) : Grow F H F2 H2 := ⟨a.fr.trans b.fr, b.le, a.kp.trans b.kp, fun c e n => b.nf c (fun z => by
  cases q : H c with
  | none => exact e q
  | some o => rw [a.kp c o q] at z; cases z) (a.nf c e n)⟩
theorem Sta.grow (s : Sta K F H σ ρ) (g : Grow F H F' H') : Ext K F H σ ρ F' H' σ ρ := by
  refine ⟨⟨g.le, s.len, fun i sl q => ?_, s.dj⟩, g.fr, fun b o e _ => g.kp b o e, fun b e _ n => g.nf b e n, fun b e => ?_, fun i b q => .inl q, fun i b q => .inl (.inr q)⟩
  · have z := s.sl i sl q
    cases sl with
    | em => trivial
    | fz d => obtain ⟨v, e, r⟩ := z; exact ⟨v, e, r.mono g.fr⟩
    | ow d =>
      obtain ⟨a, e, n, o⟩ := z
      obtain ⟨ob, eo⟩ := o.some
      exact ⟨a, e, g.nf a o.ne n, o.mono g.fr ((g.kp a ob eo).trans eo.symm)⟩
    | lk d =>
      obtain ⟨a, e, n, o⟩ := z
      obtain ⟨ob, eo⟩ := o.some
      exact ⟨a, e, g.nf a o.ne n, o.mono g.fr ((g.kp a ob eo).trans eo.symm)⟩
  · cases q : H b with
    | none => exact absurd q e
    | some o => rw [g.kp b o q]; exact fun z => nomatch z
/-- what a built-in hands back -/
def ResOk (K : KW) (H₀ F H : Hp) (v : V) : Rs → Prop
  | .fz d => Rp K F v d
  | .ow d => ∃ a, v = .ref a ∧ H₀ a = none ∧ F a = none ∧ Ob K F H a d
  | .nm _ => False
def NewR (K : KW) (F H : Hp) (r : Rs) (Q : VK) : Prop := ∀ F' H' v, Grow F H F' H' → ResOk K H F' H' v r → Q v H'
theorem Sta.res {H₀ : Hp} {v : V} {r : Rs} (s : Sta K F H σ ρ) (g : Grow F H F' H') (h : ResOk K H F' H' v r) (b : ∀ a, H a = none → H₀ a = none) : RsR K H₀ F' H' σ ρ v r := by
  cases r with
  | fz d => exact h
  | nm i => exact h.elim
  | ow d =>
    obtain ⟨a, e, h0, n, o⟩ := h
    refine ⟨a, e, b a h0, n, o, fun i q => ?_⟩
    obtain ⟨_, d', o'⟩ := s.held q
    exact o'.ne h0
theorem NewR.same {Q : VK} {v : V} {d : D} (h : NewR K F H (.fz d) Q) (s : Same F H) (r : Rp K F v d) : Q v H := h F H v (Grow.refl s) r
theorem NewR.lst {Q : VK} {ds : List D} {vs : List V} {p : Addr} (h : NewR K F H (.ow (.list ds)) Q) (s : Same F H) (r : RpA K F vs ds) (n : H p = none) : Q (.ref p) (upd H p (.lst vs)) := by
  have fn : F p = none := s.free n
  exact h F _ _ ⟨Same.refl _, s.trans (same_upd n), same_upd n, fun _ _ e => e⟩ ⟨p, rfl, n, fn, vs, upd_same, r⟩
theorem NewR.tup {Q : VK} {ds : List D} {vs : List V} {p : Addr} {ob : Obj} (h : NewR K F H (.fz (.tuple ds)) Q) (s : Same F H) (r : RpA K F vs ds) (n : H p = none) (hd : ob.dict = none) : Q (.ref p) (upd H p (.frz ob (.tup vs))) := by
  have fn : F p = none := s.free n
  refine h (upd F p (.frz ob (.tup vs))) _ _ ⟨same_upd fn, fun b o e => ?_, same_upd n, fun b e q => ?_⟩ (.tup (.inl ⟨ob, upd_same, hd⟩) (r.mono (same_upd fn)))
  · by_cases hb : b = p
    · subst hb; rw [upd_same] at e ⊢; exact e
    · rw [upd_ne hb] at e ⊢; exact s b o e
  · have hb : b ≠ p := fun z => e (z ▸ n)
    rw [upd_ne hb]; exact q
theorem NewR.dct {Q : VK} {ds : List (D × D)} {vs : List (Key × V)} {p : Addr} (h : NewR K F H (.ow (.dict ds)) Q) (s : Same F H) (r : RpK K F vs ds) (n : H p = none) : Q (.ref p) (upd H p (.dK vs)) := by
  have fn : F p = none := s.free n
  exact h F _ _ ⟨Same.refl _, s.trans (same_upd n), same_upd n, fun _ _ e => e⟩ ⟨p, rfl, n, fn, .inl ⟨vs, upd_same, r⟩⟩
theorem NewR.tdct {Q : VK} {es : List D} {xs : List (NK × Addr × V)} {p : Addr} (h : NewR K F H (.ow (.dict (tagT (xs.map (·.1)) es))) Q) (s : Same F H) (r1 : RpA K F (xs.map fun x => V.ref x.2.1) (xs.map fun x => kN x.1)) (r2 : RpA K F (xs.map fun x => x.2.2) es) (n : H p = none) : Q (.ref p) (upd H p (dX K.w p xs)) := by
  have fn : F p = none := s.free n
  exact h F _ _ ⟨Same.refl _, s.trans (same_upd n), same_upd n, fun _ _ e => e⟩ ⟨p, rfl, n, fn, .inr ⟨xs, es, upd_same, r1, r2, rfl⟩⟩
/-! ### views -/
theorem Vw.list {v : V} {ds : List D} (s : Same F H) (h : Vw K F H v (.list ds)) : ∃ a vs, v = .ref a ∧ Rd H a (.lst vs) ∧ RpA K F vs ds := by
  rcases h with h | ⟨a, rfl, vs, e, r⟩
  · cases h with
    | lst h r => exact ⟨_, _, rfl, rd_mono s h, r⟩
  · exact ⟨a, vs, rfl, .inl e, r⟩
theorem Vw.rp {v : V} {d : D} (h : Vw K F H v d) (n : ∀ ds, d ≠ .list ds) (m : ∀ ds, d ≠ .dict ds) : Rp K F v d := by
  rcases h with h | ⟨a, rfl, o⟩
  · exact h
  · cases d with
    | list ds => exact absurd rfl (n ds)
    | dict ds => exact absurd rfl (m ds)
    | _ => exact o.elim
theorem Vw.tupleD {v : V} {ds : List D} (s : Same F H) (h : Vw K F H v (.tuple ds)) : ∃ a vs, v = .ref a ∧ TupD K H a vs ∧ RpA K F vs ds := by
  have h1 := h.rp (by intro _ z; cases z) (by intro _ z; cases z)
  cases h1 with
  | tup h2 r => exact ⟨_, _, rfl, tupD_mono s h2, r⟩
theorem Vw.tuple {v : V} {ds : List D} (s : Same F H) (h : Vw K F H v (.tuple ds)) : ∃ a vs, v = .ref a ∧ SqT K H a vs ∧ RpA K F vs ds := by
  obtain ⟨a, vs, e, h2, r⟩ := h.tupleD s
  exact ⟨a, vs, e, h2.sq, r⟩
theorem Vw.int {v : V} {i : Int} (h : Vw K F H v (.int i)) : v = .int i := by
  have h := h.rp (by intro _ z; cases z) (by intro _ z; cases z)
  cases h; rfl
theorem Vw.str {v : V} {i : Str} (h : Vw K F H v (.str i)) : v = .str i := by
  have h := h.rp (by intro _ z; cases z) (by intro _ z; cases z)
  cases h; rfl
theorem Vw.bool {v : V} {i : Bool} (h : Vw K F H v (.bool i)) : v = .bl i := by
  have h := h.rp (by intro _ z; cases z) (by intro _ z; cases z)
  cases h; rfl
theorem Vw.none {v : V} (h : Vw K F H v .none) : v = .non := by
  have h := h.rp (by intro _ z; cases z) (by intro _ z; cases z)
  cases h; rfl
theorem Vw.dict {v : V} {ds : List (D × D)} (s : Same F H) (h : Vw K F H v (.dict ds)) (hk : isK ds = true) : ∃ a kvs, v = .ref a ∧ Rd H a (.dK kvs) ∧ RpK K F kvs ds := by
  rcases h with h | ⟨a, rfl, ⟨vs, e, r⟩ | ⟨xs, es, _, _, _, e⟩⟩
  · generalize hd : PyData.dict ds = d at h
    cases h with
    | dct h r => cases hd; exact ⟨_, _, rfl, rd_mono s h, r⟩
    | tdct => cases hd; cases hk
    | _ => cases hd
  · exact ⟨a, vs, rfl, .inl e, r⟩
  · subst e; cases hk
theorem Ob.asK {a : Addr} {ds : List (D × D)} (h : Ob K F H a (.dict ds)) (hk : isK ds = true) : ∃ kvs, H a = Option.some (HO.dK kvs) ∧ RpK K F kvs ds := by
  rcases h with h | ⟨xs, es, _, _, _, e⟩
  · exact h
  · subst e; cases hk
theorem Ob.asT {a : Addr} {ds : List (D × D)} (h : Ob K F H a (.dict ds)) (hk : isK ds = false) : ObT K F H a ds := by
  rcases h with ⟨kvs, _, r⟩ | h
  · rw [isK_rp r] at hk; cases hk
  · exact h
/-- a dict with tuple keys is read -/
theorem Vw.tdict {v : V} {ds : List (D × D)} (s : Same F H) (h : Vw K F H v (.dict ds)) (hk : isK ds = false) : ∃ a xs es, v = .ref a ∧ Rd H a (dX K.w a xs) ∧ RpA K F (xs.map fun x => V.ref x.2.1) (xs.map fun x => kN x.1) ∧ RpA K F (xs.map fun x => x.2.2) es ∧ ds = tagT (xs.map (·.1)) es := by
  rcases h with h | ⟨a, rfl, ⟨vs, e, r⟩ | ⟨xs, es, e1, e2, e3, e4⟩⟩
  · generalize hd : PyData.dict ds = d at h
    cases h with
    | dct h r => cases hd; rw [isK_rp r] at hk; cases hk
    | tdct h r1 r2 => cases hd; exact ⟨_, _, _, rfl, rd_mono s h, r1, r2, rfl⟩
    | _ => cases hd
  · rw [isK_rp r] at hk; cases hk
  · exact ⟨a, xs, es, rfl, .inl e1, e2, e3, e4⟩
theorem Vw.ext {v : V} {d : D} {ρ2 : List Sl} {F2 H2 : Hp} (h : Vw K F H v d) (g : Grow F H F2 H2) : Vw K F2 H2 v d := by
  rcases h with h | ⟨a, rfl, o⟩
  · exact .inl (h.mono g.fr)
  · obtain ⟨ob, eo⟩ := o.some
    exact .inr ⟨a, rfl, o.mono g.fr ((g.kp a ob eo).trans eo.symm)⟩
/-! ### names and constants -/
def dVar (i : Nat) : M Rs := fun ρ => match ρ[i]? with
  | some (.fz d) => .ok (.fz d) ρ
  | some (.ow _) => .ok (.nm i) ρ
  | some (.lk _) => .ok (.nm i) ρ
  | _ => .bad
theorem pv' {X : Cx} (i : Nat) {x : Str} {pos : Pos} (hN : X.N[i]? = some x := by rfl) (hv : Vis X.env.scope x := by first | exact Or.inl rfl | exact Or.inr (Or.inl rfl) | exact Or.inr (Or.inr rfl)) (hd : (x == ("__debug__" : Str)) = false := by decide)
    (hcd : (x == ("__classdict__" : Str)) = false := by decide) : PE X (.Name x pos) (tSem X.kw (dVar i)) := by
  refine peWeak (pe_var hN hv hd hcd) fun σ H Q h => ?_
  obtain ⟨F, ρ, r, ρ', s, e, k⟩ := h
  unfold dVar at e
  cases q : ρ[i]? with
  | none => rw [q] at e; cases e
  | some sl =>
    rw [q] at e
    have z := s.sl i sl q
    cases sl with
    | em => cases e
    | fz d => cases e; obtain ⟨v, e1, e2⟩ := z; exact ⟨v, e1, k F H v (Ext.refl s) e2⟩
    | ow d => cases e; obtain ⟨a, e1, e2, e3⟩ := z; exact ⟨_, e1, k F H _ (Ext.refl s) e1⟩
    | lk d => cases e; obtain ⟨a, e1, e2, e3⟩ := z; exact ⟨_, e1, k F H _ (Ext.refl s) e1⟩
def dC (d : D) : M Rs := pr (.fz d)
theorem sem_C {d : D} {v : V} (h : ∀ K F, Rp K F v d) : ∀ σ H Q, tSem K (dC d) σ H Q → tC v σ H Q := fun σ H Q ⟨F, ρ, r, ρ', s, e, k⟩ => by
  cases e; exact k F H v (Ext.refl s) (h K F)
section
variable {X : Cx}
theorem ci {i : Int} {j : Nat} {pos : Pos} : PE X (.Constant (.int i) j pos) (tSem X.kw (dC (.int i))) := peWeak pe_int (sem_C fun _ _ => .int i)
theorem cb {b : Bool} {j : Nat} {pos : Pos} : PE X (.Constant (.bool b) j pos) (tSem X.kw (dC (.bool b))) := peWeak pe_bl (sem_C fun _ _ => .bl b)
theorem cn {j : Nat} {pos : Pos} : PE X (.Constant .none j pos) (tSem X.kw (dC .none)) := peWeak pe_non (sem_C fun _ _ => .non)
theorem cs {x : Str} {j : Nat} {pos : Pos} : PE X (.Constant (.str x) j pos) (tSem X.kw (dC (.str x))) := peWeak pe_str (sem_C fun _ _ => .str x)
/-- a constant of the module -/
theorem cg {x : Str} {d : D} {v : V} {u : Value} {pos : Pos} (hg : Gl X x) (hm : X.mg x = some u) (r : RelV v u) (hr : ∀ K F, Rp K F v d) (hd : (x == ("__debug__" : Str)) = false := by decide) : PE X (.Name x pos) (tSem X.kw (dC d)) := peWeak (pe_glob hg hm r hd) (sem_C hr)
end
/-! ### two places -/
abbrev G2 := D → D → Option Rs
def Op2 (K : KW) (r : R2) (g : G2) : Prop := ∀ F H x y dx dy res Q, Same F H → Vw K F H x dx → Vw K F H y dy → g dx dy = some res → NewR K F H res Q → r x y H Q
def dOp2 (g : G2) (fa fb : M Rs) : M Rs := bd fa fun ra => bd fb fun rb => bd (look ra) fun da => bd (look rb) fun db => opt (g da db)
theorem sem_op2 {r : R2} {g : G2} {fa fb : M Rs} (h : Op2 K r g) : ∀ σ H Q, tSem K (dOp2 g fa fb) σ H Q → tOp r (tSem K fa) (tSem K fb) σ H Q := fun σ H Q ⟨F, ρ, res, ρ', s, e, k⟩ => by
  obtain ⟨ra, ρ1, e1, e⟩ := bd_ok e
  obtain ⟨rb, ρ2, e2, e⟩ := bd_ok e
  obtain ⟨da, ρ3, e3, e⟩ := bd_ok e
  obtain ⟨db, ρ4, e4, e⟩ := bd_ok e
  obtain ⟨eg, e5⟩ := opt_ok e
  refine ⟨F, ρ, ra, ρ1, s, e1, fun F1 H1 x x1 r1 => ⟨F1, ρ1, rb, ρ2, x1.st, e2, fun F2 H2 y x2 r2 => ?_⟩⟩
  have r1' := r1.ext x2
  obtain ⟨e3', w1⟩ := look_ok x2.st r1' e3
  subst e3'
  obtain ⟨e4', w2⟩ := look_ok x2.st r2 e4
  subst e4'
  subst e5
  refine h F2 H2 x y da db res Q x2.st.le w1 w2 eg fun F3 H3 v g hr => ?_
  have x3 := x2.st.grow g
  exact k F3 H3 v ((x1.trans x2).trans x3) (x2.st.res g hr fun a z => (x1.trans x2).back z)
theorem sem_op2T {r : R2} {g : D → D → Option Bool} {fa fb : M Rs} (h : Op2 K r (fun a b => (g a b).map fun k => .fz (.bool k))) :
    ∀ σ H Q, tSemT K (bd fa fun ra => bd fb fun rb => bd (look ra) fun da => bd (look rb) fun db => opt (g da db)) σ H Q → tTest (tOp r (tSem K fa) (tSem K fb)) σ H Q := fun σ H Q ⟨F, ρ, res, ρ', s, e, k⟩ => by
  refine sem_op2 h σ H _ ⟨F, ρ, .fz (.bool res), ρ', s, ?_, fun F' H' v x r => ?_⟩
  · obtain ⟨ra, ρ1, e1, e⟩ := bd_ok e
    obtain ⟨rb, ρ2, e2, e⟩ := bd_ok e
    obtain ⟨da, ρ3, e3, e⟩ := bd_ok e
    obtain ⟨db, ρ4, e4, e⟩ := bd_ok e
    obtain ⟨eg, e5⟩ := opt_ok e
    unfold dOp2 bd
    simp only [e1, e2, e3, e4, eg, e5, opt, Option.map]
  · have r : Rp K F' v (.bool res) := r
    cases r
    exact ⟨res, rfl, k F' H' x⟩
def dOp2T (g : D → D → Option Bool) (fa fb : M Rs) : M Bool := bd fa fun ra => bd fb fun rb => bd (look ra) fun da => bd (look rb) fun db => opt (g da db)
/-! ### one place -/
def Op1 (K : KW) (r : V → Hp → VK → Prop) (g : D → Option Rs) : Prop := ∀ F H x dx res Q, Same F H → Vw K F H x dx → g dx = some res → NewR K F H res Q → r x H Q
def dOp1 (g : D → Option Rs) (fa : M Rs) : M Rs := bd fa fun ra => bd (look ra) fun da => opt (g da)
theorem sem_op1 {r : V → Hp → VK → Prop} {g : D → Option Rs} {fa : M Rs} (h : Op1 K r g) : ∀ σ H Q, tSem K (dOp1 g fa) σ H Q → tUn r (tSem K fa) σ H Q := fun σ H Q ⟨F, ρ, res, ρ', s, e, k⟩ => by
  obtain ⟨ra, ρ1, e1, e⟩ := bd_ok e
  obtain ⟨da, ρ3, e3, e⟩ := bd_ok e
  obtain ⟨eg, e5⟩ := opt_ok e
  refine ⟨F, ρ, ra, ρ1, s, e1, fun F1 H1 x x1 r1 => ?_⟩
  obtain ⟨e3', w1⟩ := look_ok x1.st r1 e3
  subst e3'
  subst e5
  refine h F1 H1 x da res Q x1.st.le w1 eg fun F3 H3 v g hr => ?_
  exact k F3 H3 v (x1.trans (x1.st.grow g)) (x1.st.res g hr fun a z => x1.back z)
/-! ### arguments -/
def dNil : M (List Rs) := pr []
def dCons (f : M Rs) (g : M (List Rs)) : M (List Rs) := bd f fun r => bd g fun rs => pr (r :: rs)
theorem sem_nil : ∀ σ H Q, tSemA K dNil σ H Q → tNil σ H Q := fun σ H Q ⟨F, ρ, r, ρ', s, e, k⟩ => by
  cases e
  exact k F H [] (Ext.refl s) ⟨rfl, fun i v r h => by simp at h, fun i j a d e h => by simp at h⟩
theorem sem_cons {f : M Rs} {g : M (List Rs)} : ∀ σ H Q, tSemA K (dCons f g) σ H Q → tCons (tSem K f) (tSemA K g) σ H Q := fun σ H Q ⟨F, ρ, r, ρ', s, e, k⟩ => by
  obtain ⟨r1, ρ1, e1, e⟩ := bd_ok e
  obtain ⟨rs, ρ2, e2, e⟩ := bd_ok e
  obtain ⟨e3, e4⟩ := pr_ok e
  subst e3; subst e4
  refine ⟨F, ρ, r1, ρ1, s, e1, fun F1 H1 v x1 q1 => ⟨F1, ρ1, rs, ρ', x1.st, e2, fun F2 H2 vs x2 q2 => ?_⟩⟩
  refine k F2 H2 (v :: vs) (x1.trans x2) ⟨by rw [List.length_cons, List.length_cons, q2.len], fun i w r h1 h2 => ?_, fun i j a d e h1 h2 h3 h4 => ?_⟩
  · cases i with
    | zero =>
      simp at h1 h2
      subst h1; subst h2
      exact q1.ext x2
    | succ i => exact (q2.at_ i w r (by simpa using h1) (by simpa using h2)).base fun a z => x1.back z
  · have cross : ∀ (j : Nat) (a : Addr) (d e : D), v = .ref a → r1 = .ow d → vs[j]? = some (.ref a) → rs[j]? = some (.ow e) → False := fun j' a' d' e' g1 g2 g3 g4 => by
      rw [g2] at q1
      obtain ⟨b, eb, _, _, ob, _⟩ := q1
      obtain ⟨c, ec, hc, _⟩ := q2.at_ j' _ _ g3 g4
      rw [g1] at eb
      cases eb
      cases ec
      exact ob.ne hc
    cases i with
    | zero =>
      cases j with
      | zero => rfl
      | succ j =>
        simp at h1 h2
        exact (cross j a d e h1 h2 (by simpa using h3) (by simpa using h4)).elim
    | succ i =>
      cases j with
      | zero =>
        simp at h3 h4
        exact (cross i a e d h3 h4 (by simpa using h1) (by simpa using h2)).elim
      | succ j => rw [q2.dj i j a d e (by simpa using h1) (by simpa using h2) (by simpa using h3) (by simpa using h4)]
section
variable {X : Cx} {e : Expr} {es : List Expr} {f : M Rs} {g : M (List Rs)}
theorem an : PA X [] (tSemA X.kw dNil) := paWeak pa_nil sem_nil
theorem ac (ha : PE X e (tSem X.kw f)) (hr : PA X es (tSemA X.kw g)) (hs : starEach (e :: es) X.env = (false, eval e X.env) :: starEach es X.env := by rfl) : PA X (e :: es) (tSemA X.kw (dCons f g)) := paWeak (pa_cons ha hr hs) sem_cons
end
def lookA : List Rs → M (List D)
  | [] => pr []
  | r :: rs => bd (look r) fun d => bd (lookA rs) fun ds => pr (d :: ds)
def frzA : List Rs → M (List D)
  | [] => pr []
  | r :: rs => bd (frz r) fun d => bd (frzA rs) fun ds => pr (d :: ds)
/-- values that read as data now -/
def VwA (K : KW) (F H : Hp) : List V → List D → Prop
  | [], [] => True
  | v :: vs, d :: ds => Vw K F H v d ∧ VwA K F H vs ds
  | _, _ => False
theorem RsA.tail {H₀ : Hp} {v : V} {r : Rs} {vs : List V} {rs : List Rs} (h : RsA K H₀ F H σ ρ (v :: vs) (r :: rs)) : RsR K H₀ F H σ ρ v r ∧ RsA K H₀ F H σ ρ vs rs :=
  ⟨h.at_ 0 v r rfl rfl, ⟨by have := h.len; simpa using this, fun i w s h1 h2 => h.at_ (i + 1) w s (by simpa using h1) (by simpa using h2),
    fun i j a d e h1 h2 h3 h4 => by have := h.dj (i + 1) (j + 1) a d e (by simpa using h1) (by simpa using h2) (by simpa using h3) (by simpa using h4); omega⟩⟩
theorem lookA_ok {H₀ : Hp} (s : Sta K F H σ ρ) : ∀ {vs : List V} {rs : List Rs} {ds : List D} {ρ' : List Sl}, RsA K H₀ F H σ ρ vs rs → lookA rs ρ = .ok ds ρ' → ρ' = ρ ∧ VwA K F H vs ds
  | [], [], ds, ρ', h, e => by cases e; exact ⟨rfl, trivial⟩
  | [], _ :: _, ds, ρ', h, e => by have := h.len; simp at this
  | _ :: _, [], ds, ρ', h, e => by have := h.len; simp at this
  | v :: vs, r :: rs, ds, ρ', h, e => by
    obtain ⟨d, ρ1, e1, e⟩ := bd_ok e
    obtain ⟨ds', ρ2, e2, e⟩ := bd_ok e
    obtain ⟨e3, e4⟩ := pr_ok e
    subst e3; subst e4
    obtain ⟨h1, h2⟩ := h.tail
    obtain ⟨z, w⟩ := look_ok s h1 e1
    rw [z] at e2
    obtain ⟨z', w'⟩ := lookA_ok s h2 e2
    exact ⟨z', w, w'⟩
theorem RsA.ext {H₀ : Hp} {vs : List V} {rs : List Rs} (h : RsA K H₀ F H σ ρ vs rs) (x : Ext K F H σ ρ F' H' σ ρ') : RsA K H₀ F' H' σ ρ' vs rs := ⟨h.len, fun i v r h1 h2 => (h.at_ i v r h1 h2).ext x, h.dj⟩
end
end DL
namespace DL
open PySem PySem.Spec PyProof.Rows L2
section
variable {K : KW} {F H F' H' : Hp} {σ σ' : SS} {ρ ρ' : List Sl}
/-! ### freezing several -/
theorem hd_set_fz {i j : Nat} {b : Addr} {d : D} (h : HdAt σ (ρ.set i (.fz d)) j b) : HdAt σ ρ j b := by
  by_cases hj : i = j
  · subst hj
    rcases h with ⟨e, d', q⟩ | ⟨e, d', q⟩ <;>
    · by_cases hi : i < ρ.length
      · rw [List.getElem?_set_self hi] at q; cases q
      · rw [List.getElem?_eq_none (by simpa using hi)] at q; cases q
  · rcases h with ⟨e, d', q⟩ | ⟨e, d', q⟩
    · rw [List.getElem?_set_ne hj] at q; exact .inl ⟨e, d', q⟩
    · rw [List.getElem?_set_ne hj] at q; exact .inr ⟨e, d', q⟩
theorem Ext.freeze' {F₀ H₀ : Hp} {σ₀ : SS} {ρ₀ : List Sl} {i : Nat} {a : Addr} {d : D} {s : Sl} (x : Ext K F₀ H₀ σ₀ ρ₀ F H σ ρ) (hσ : σ[i]? = some (some (.ref a))) (hρ : ρ[i]? = some s) (hs : s = .ow d ∨ s = .lk d) :
    ∃ F', Ext K F₀ H₀ σ₀ ρ₀ F' H σ (ρ.set i (.fz d)) ∧ Rp K F' (.ref a) d ∧ Same F F' ∧ (∀ b, (∀ i, ¬ HdAt σ ρ i b) → F b = none → F' b = none) := by
  have hd : HdAt σ ρ i a := by
    rcases hs with e | e
    · exact .inl ⟨hσ, d, by rw [hρ, e]⟩
    · exact .inr ⟨hσ, d, by rw [hρ, e]⟩
  obtain ⟨F', x', rp⟩ := (Ext.refl x.st).freeze hσ hρ hs
  refine ⟨F', x.trans x', rp, x'.fr, fun b n q => ?_⟩
  cases e : H b with
  | some o => exact x'.nf b (by rw [e]; exact fun z => nomatch z) n q
  | none =>
    cases r : F' b with
    | none => rfl
    | some o =>
      have := x'.st.le b o r
      rw [e] at this; cases this
theorem frz_ok' {F₀ H₀ : Hp} {σ₀ : SS} {ρ₀ : List Sl} {v : V} {r : Rs} {d : D} (x : Ext K F₀ H₀ σ₀ ρ₀ F H σ ρ) (h : RsR K H₀ F H σ ρ v r) (e : frz r ρ = .ok d ρ') :
    ∃ F', Ext K F₀ H₀ σ₀ ρ₀ F' H σ ρ' ∧ Rp K F' v d ∧ Same F F' ∧ (∀ b, (∀ i, ¬ HdAt σ ρ i b) → (∀ d', r = .ow d' → v ≠ .ref b) → F b = none → F' b = none) ∧ ∀ i b, HdAt σ ρ' i b → HdAt σ ρ i b := by
  cases r with
  | fz d' => cases e; exact ⟨F, x, h, Same.refl _, fun _ _ _ e => e, fun _ _ e => e⟩
  | ow d' =>
    obtain ⟨a, e1, h0, hf, ho, hn⟩ := h
    cases e
    subst e1
    obtain ⟨F', x', rp, sm, nb⟩ := x.freezeNew h0 hf ho hn
    refine ⟨F', x', rp, sm, fun b _ q z => ?_, fun _ _ e => e⟩
    rw [nb b fun z => q _ rfl (by rw [z])]; exact z
  | nm i =>
    have h : σ[i]? = some (some v) := h
    unfold frz at e
    simp only at e
    cases q : ρ[i]? with
    | none => rw [q] at e; cases e
    | some sl =>
      rw [q] at e
      have z := x.st.sl i sl q
      cases sl with
      | em => cases e
      | fz d' =>
        cases e
        obtain ⟨w, e1, e2⟩ := z
        rw [h] at e1; cases e1
        exact ⟨F, x, e2, Same.refl _, fun _ _ _ e => e, fun _ _ e => e⟩
      | ow d' =>
        cases e
        obtain ⟨a, e1, e2, e3⟩ := z
        rw [h] at e1; cases e1
        obtain ⟨F', x', rp, sm, nb⟩ := x.freeze' h q (.inl rfl)
        exact ⟨F', x', rp, sm, fun b n _ z => nb b n z, fun _ _ => hd_set_fz⟩
      | lk d' =>
        cases e
        obtain ⟨a, e1, e2, e3⟩ := z
        rw [h] at e1; cases e1
        obtain ⟨F', x', rp, sm, nb⟩ := x.freeze' h q (.inr rfl)
        exact ⟨F', x', rp, sm, fun b n _ z => nb b n z, fun _ _ => hd_set_fz⟩
/-- the others stay what they were when one is frozen -/
theorem RsA.frozen {H₀ : Hp} {v : V} {r : Rs} {vs : List V} {rs : List Rs} (h : RsA K H₀ F H σ ρ (v :: vs) (r :: rs)) (sm : Same F F')
    (nb : ∀ b, (∀ i, ¬ HdAt σ ρ i b) → (∀ d', r = .ow d' → v ≠ .ref b) → F b = none → F' b = none) (hb : ∀ i b, HdAt σ ρ' i b → HdAt σ ρ i b) : RsA K H₀ F' H σ ρ' vs rs := by
  refine ⟨h.tail.2.len, fun i w s h1 h2 => ?_, h.tail.2.dj⟩
  have q := h.tail.2.at_ i w s h1 h2
  cases s with
  | fz d => exact q.mono sm
  | nm i => exact q
  | ow d =>
    obtain ⟨a, e, h0, hf, ho, hn⟩ := q
    refine ⟨a, e, h0, nb a hn (fun d' e1 e2 => ?_) hf, ho.mono sm rfl, fun i z => hn i (hb i a z)⟩
    have := h.dj 0 (i + 1) a d' d (by rw [e2]; rfl) (by rw [e1]; rfl) (by rw [← e]; simpa using h1) (by simpa using h2)
    omega
theorem frzA_ok {F₀ H₀ : Hp} {σ₀ : SS} {ρ₀ : List Sl} : ∀ {rs : List Rs} {vs : List V} {ds : List D} {F : Hp} {ρ ρ' : List Sl}, Ext K F₀ H₀ σ₀ ρ₀ F H σ ρ → RsA K H₀ F H σ ρ vs rs → frzA rs ρ = .ok ds ρ' →
    ∃ F', Ext K F₀ H₀ σ₀ ρ₀ F' H σ ρ' ∧ RpA K F' vs ds ∧ Same F F'
  | [], [], ds, F, ρ, ρ', x, h, e => by cases e; exact ⟨F, x, .nil, Same.refl _⟩
  | [], _ :: _, _, _, _, _, _, h, _ => by have := h.len; simp at this
  | _ :: _, [], _, _, _, _, _, h, _ => by have := h.len; simp at this
  | r :: rs, v :: vs, ds, F, ρ, ρ', x, h, e => by
    obtain ⟨d, ρ1, e1, e⟩ := bd_ok e
    obtain ⟨ds', ρ2, e2, e⟩ := bd_ok e
    obtain ⟨e3, e4⟩ := pr_ok e
    subst e3; subst e4
    obtain ⟨F1, x1, rp, sm, nb, hb⟩ := frz_ok' x h.tail.1 e1
    obtain ⟨F2, x2, rpa, sm2⟩ := frzA_ok x1 (h.frozen sm nb hb) e2
    exact ⟨F2, x2, .cons (rp.mono sm2) rpa, sm.trans sm2⟩
/-! ### displays of tuples and lists -/
def dTup (f : M (List Rs)) : M Rs := bd f fun rs => bd (frzA rs) fun ds => if ds.length ≤ 1000 then pr (.fz (.tuple ds)) else fun _ => .bad
def dLst (f : M (List Rs)) : M Rs := bd f fun rs => bd (frzA rs) fun ds => if ds.length ≤ 1000 then pr (.ow (.list ds)) else fun _ => .bad
theorem small_le {n : Nat} (h : n ≤ 1000) : n ≤ sizeLine := Nat.le_trans h (by decide)
/-- a new tuple, told to have no dict of its own -/
def tTupD (t : TA) : TE := fun σ H Q => t σ H fun xs H1 => xs.length ≤ sizeLine ∧ ∀ p ob, H1 p = none → ob.dict = none → Q (.ref p) (upd H1 p (.frz ob (.tup xs)))
theorem pe_tupD {X : Cx} {es : List Expr} {t : TA} {pos : Pos} {x1} (h : PA X es t) : PE X (.Tuple es x1 pos) (tTupD t) := by
  refine ⟨fun pins s σ H Q I hq => ?_⟩
  refine wpAny_Tuple_spliced (thn (h.run pos pins s σ H _ I hq) fun us s1 ⟨xs, H1, I1, r, z, q⟩ => ⟨by rw [← r.length]; exact z, ?_⟩)
  have hf : H1 s1.heap.objs.size = none := I1.hok.fresh (Nat.le_refl _)
  refine ⟨.ref s1.heap.objs.size, upd H1 s1.heap.objs.size (.frz { cls := .type "tuple", data := .seq us.toArray } (.tup xs)), I1.laid (t' := s1.toks) (fun b u e => Heap.get?_push_of_some _ e) (Nat.le_refl _) ?_, rfl, q _ _ hf rfl⟩
  exact ⟨Heap.get?_push_size _ rfl, z, us, r, ⟨_, Heap.get?_push_size _ rfl, rfl, _, rfl⟩⟩
theorem sem_tup {f : M (List Rs)} : ∀ σ H Q, tSem K (dTup f) σ H Q → tTupD (tSemA K f) σ H Q := fun σ H Q ⟨F, ρ, r, ρ', s, e, k⟩ => by
  obtain ⟨rs, ρ1, e1, e⟩ := bd_ok e
  obtain ⟨ds, ρ2, e2, e⟩ := bd_ok e
  split at e
  case isFalse => cases e
  case isTrue hl =>
    obtain ⟨e3, e4⟩ := pr_ok e
    subst e3; subst e4
    refine ⟨F, ρ, rs, ρ1, s, e1, fun F1 H1 vs x1 q1 => ?_⟩
    obtain ⟨F2, x2, rpa, _⟩ := frzA_ok x1 q1 e2
    refine ⟨by rw [rpa.length]; exact small_le hl, fun p ob hp hd => NewR.tup (F := F2) (K := K) (fun F3 H3 v g hr => k F3 H3 v (x2.trans (x2.st.grow g)) (x2.st.res g hr fun a z => x2.back z)) x2.st.le rpa hp hd⟩
theorem sem_lst {f : M (List Rs)} : ∀ σ H Q, tSem K (dLst f) σ H Q → tLst (tSemA K f) σ H Q := fun σ H Q ⟨F, ρ, r, ρ', s, e, k⟩ => by
  obtain ⟨rs, ρ1, e1, e⟩ := bd_ok e
  obtain ⟨ds, ρ2, e2, e⟩ := bd_ok e
  split at e
  case isFalse => cases e
  case isTrue hl =>
    obtain ⟨e3, e4⟩ := pr_ok e
    subst e3; subst e4
    refine ⟨F, ρ, rs, ρ1, s, e1, fun F1 H1 vs x1 q1 => ?_⟩
    obtain ⟨F2, x2, rpa, _⟩ := frzA_ok x1 q1 e2
    refine ⟨by rw [rpa.length]; exact small_le hl, fun p hp => NewR.lst (F := F2) (K := K) (fun F3 H3 v g hr => k F3 H3 v (x2.trans (x2.st.grow g)) (x2.st.res g hr fun a z => x2.back z)) x2.st.le rpa hp⟩
section
variable {X : Cx} {es : List Expr} {f : M (List Rs)} {pos : Pos} {x1 : Nat}
theorem et (h : PA X es (tSemA X.kw f)) : PE X (.Tuple es x1 pos) (tSem X.kw (dTup f)) := peWeak (pe_tupD h) sem_tup
theorem el (h : PA X es (tSemA X.kw f)) : PE X (.List es pos) (tSem X.kw (dLst f)) := peWeak (pe_lst h) sem_lst
end
/-! ### built-ins of several values -/
def OpN (K : KW) (r : List V → Hp → VK → Prop) (g : List D → Option Rs) : Prop := ∀ F H xs ds res Q, Same F H → VwA K F H xs ds → g ds = some res → NewR K F H res Q → r xs H Q
def dB (g : List D → Option Rs) (f : M (List Rs)) : M Rs := bd f fun rs => bd (lookA rs) fun ds => opt (g ds)
theorem sem_B {r : List V → Hp → VK → Prop} {g : List D → Option Rs} {f : M (List Rs)} (h : OpN K r g) : ∀ σ H Q, tSem K (dB g f) σ H Q → tCB r (tSemA K f) σ H Q := fun σ H Q ⟨F, ρ, res, ρ', s, e, k⟩ => by
  obtain ⟨rs, ρ1, e1, e⟩ := bd_ok e
  obtain ⟨ds, ρ3, e3, e⟩ := bd_ok e
  obtain ⟨eg, e5⟩ := opt_ok e
  refine ⟨F, ρ, rs, ρ1, s, e1, fun F1 H1 vs x1 q1 => ?_⟩
  obtain ⟨e3', w⟩ := lookA_ok x1.st q1 e3
  subst e3'; subst e5
  refine h F1 H1 vs ds res Q x1.st.le w eg fun F3 H3 v g hr => ?_
  exact k F3 H3 v (x1.trans (x1.st.grow g)) (x1.st.res g hr fun a z => x1.back z)
/-! ### calls of defs -/
def argS (l : Bool) (r : Rs) : M Rs := fun ρ => match r with
  | .fz d => .ok (.fz d) ρ
  | .ow d => .ok (.ow d) ρ
  | .nm i => match ρ[i]? with
    | some (.fz d) => .ok (.fz d) ρ
    | some (.ow d) => if l then .ok (.nm i) ρ else .ok (.fz d) (ρ.set i (.fz d))
    | some (.lk d) => if l then .ok (.nm i) ρ else .ok (.fz d) (ρ.set i (.fz d))
    | _ => .bad
def argSA : List Bool → List Rs → M (List Rs)
  | l :: ls, r :: rs => bd (argS l r) fun r' => bd (argSA ls rs) fun rs' => pr (r' :: rs')
  | [], [] => pr []
  | _, _ => fun _ => .bad
def slotOf (ρ : List Sl) : Rs → Sl
  | .fz d => .fz d
  | .ow d => .ow d
  | .nm i => (ρ[i]?).getD .em
def isNm (i : Nat) : Rs → Bool
  | .nm j => i == j
  | _ => false
def nmOk : List Rs → Bool
  | .nm i :: rs => !(rs.any (isNm i)) && nmOk rs
  | _ :: rs => nmOk rs
  | [] => true
/-- the slots of what was lent, as the callee left them -/
def wb : List Rs → List Sl → List Sl → List Sl
  | .nm i :: rs, s :: ss, ρ => wb rs ss (ρ.set i s)
  | _ :: rs, _ :: ss, ρ => wb rs ss ρ
  | _, _, ρ => ρ
def heldR (ρ : List Sl) : Rs → Bool
  | .nm i => match ρ[i]? with
    | some (.ow _) => true
    | some (.lk _) => true
    | _ => false
  | _ => true
def dCall (ls : List Bool) (sem : M Rs) (f : M (List Rs)) : M Rs := bd f fun rs => bd (argSA ls rs) fun rs' => fun ρ =>
  if (nmOk rs' && rs'.all (heldR ρ)) = true then match sem (rs'.map (slotOf ρ)) with
    | .ok (.fz d) ρp => .ok (.fz d) (wb rs' ρp ρ)
    | .ok (.ow d) ρp => .ok (.ow d) (wb rs' ρp ρ)
    | _ => .bad
  else .bad
theorem argS_ok {F₀ H₀ : Hp} {σ₀ : SS} {ρ₀ : List Sl} {l : Bool} {v : V} {r r' : Rs} (x : Ext K F₀ H₀ σ₀ ρ₀ F H σ ρ) (h : RsR K H₀ F H σ ρ v r) (e : argS l r ρ = .ok r' ρ') :
    ∃ F', Ext K F₀ H₀ σ₀ ρ₀ F' H σ ρ' ∧ RsR K H₀ F' H σ ρ' v r' ∧ (∀ d, r' = .ow d → r = .ow d) ∧ Same F F' ∧ (∀ b, (∀ i, ¬ HdAt σ ρ i b) → F b = none → F' b = none) ∧ ∀ i b, HdAt σ ρ' i b → HdAt σ ρ i b := by
  cases r with
  | fz d => cases e; exact ⟨F, x, h, (fun _ e => nomatch e), Same.refl _, fun _ _ e => e, fun _ _ e => e⟩
  | ow d => cases e; exact ⟨F, x, h, fun _ e => e, Same.refl _, fun _ _ e => e, fun _ _ e => e⟩
  | nm i =>
    have h' : σ[i]? = some (some v) := h
    unfold argS at e
    simp only at e
    cases q : ρ[i]? with
    | none => rw [q] at e; cases e
    | some sl =>
      rw [q] at e
      have z := x.st.sl i sl q
      cases sl with
      | em => cases e
      | fz d' =>
        cases e
        obtain ⟨w, e1, e2⟩ := z
        rw [h'] at e1; cases e1
        exact ⟨F, x, e2, (fun _ e => nomatch e), Same.refl _, fun _ _ e => e, fun _ _ e => e⟩
      | ow d' =>
        obtain ⟨a, e1, e2, e3⟩ := z
        rw [h'] at e1; cases e1
        simp only at e
        split at e
        · cases e; exact ⟨F, x, h, (fun _ e => nomatch e), Same.refl _, fun _ _ e => e, fun _ _ e => e⟩
        · cases e
          obtain ⟨F', x', rp, sm, nb⟩ := x.freeze' h' q (.inl rfl)
          exact ⟨F', x', rp, (fun _ e => nomatch e), sm, fun b n z => nb b n z, fun _ _ => hd_set_fz⟩
      | lk d' =>
        obtain ⟨a, e1, e2, e3⟩ := z
        rw [h'] at e1; cases e1
        simp only at e
        split at e
        · cases e; exact ⟨F, x, h, (fun _ e => nomatch e), Same.refl _, fun _ _ e => e, fun _ _ e => e⟩
        · cases e
          obtain ⟨F', x', rp, sm, nb⟩ := x.freeze' h' q (.inr rfl)
          exact ⟨F', x', rp, (fun _ e => nomatch e), sm, fun b n z => nb b n z, fun _ _ => hd_set_fz⟩
theorem argSA_ok {F₀ H₀ : Hp} {σ₀ : SS} {ρ₀ : List Sl} : ∀ {ls : List Bool} {rs rs' : List Rs} {vs : List V} {F : Hp} {ρ ρ' : List Sl}, Ext K F₀ H₀ σ₀ ρ₀ F H σ ρ → RsA K H₀ F H σ ρ vs rs → argSA ls rs ρ = .ok rs' ρ' →
    ∃ F', Ext K F₀ H₀ σ₀ ρ₀ F' H σ ρ' ∧ RsA K H₀ F' H σ ρ' vs rs' ∧ (∀ (j : Nat) (d : D), rs'[j]? = some (.ow d) → rs[j]? = some (.ow d)) ∧ Same F F' ∧ (∀ b, (∀ i, ¬ HdAt σ ρ i b) → F b = none → F' b = none) ∧ ∀ i b, HdAt σ ρ' i b → HdAt σ ρ i b
  | [], [], rs', [], F, ρ, ρ', x, h, e => by cases e; exact ⟨F, x, h, fun _ _ e => e, Same.refl _, fun _ _ e => e, fun _ _ e => e⟩
  | _, [], _, _ :: _, _, _, _, _, h, _ => by have := h.len; simp at this
  | _, _ :: _, _, [], _, _, _, _, h, _ => by have := h.len; simp at this
  | [], _ :: _, _, _ :: _, _, _, _, _, h, e => by cases e
  | _ :: _, [], _, _, _, _, _, _, h, e => by cases e
  | l :: ls, r :: rs, rs', v :: vs, F, ρ, ρ', x, h, e => by
    obtain ⟨r1, ρ1, e1, e⟩ := bd_ok e
    obtain ⟨rs1, ρ2, e2, e⟩ := bd_ok e
    obtain ⟨e3, e4⟩ := pr_ok e
    subst e3; subst e4
    obtain ⟨F1, x1, q1, ow1, sm, nb, hb⟩ := argS_ok x h.tail.1 e1
    obtain ⟨F2, x2, q2, ow2, sm2, nb2, hb2⟩ := argSA_ok x1 (h.frozen sm (fun b n _ z => nb b n z) hb) e2
    refine ⟨F2, x2, ⟨by rw [List.length_cons, List.length_cons, q2.len], fun i w s h1 h2 => ?_, fun i j a d e h1 h2 h3 h4 => ?_⟩, fun j d z => ?_, sm.trans sm2, fun b n z => nb2 b (fun i y => n i (hb i b y)) (nb b n z), fun i b y => hb i b (hb2 i b y)⟩
    · cases i with
      | zero =>
        simp at h1 h2
        subst h1; subst h2
        cases r1 with
        | fz d => exact Rp.mono sm2 q1
        | nm i => exact q1
        | ow d =>
          obtain ⟨a, e, h0, hf, ho, hn⟩ := q1
          exact ⟨a, e, h0, nb2 a hn hf, ho.mono sm2 rfl, fun i z => hn i (hb2 i a z)⟩
      | succ i => exact q2.at_ i w s (by simpa using h1) (by simpa using h2)
    · have o1 : (r :: rs)[i]? = some (.ow d) := by
        cases i with
        | zero => simp at h2 ⊢; exact ow1 d h2
        | succ i => simp at h2 ⊢; exact ow2 i d h2
      have o2 : (r :: rs)[j]? = some (.ow e) := by
        cases j with
        | zero => simp at h4 ⊢; exact ow1 e h4
        | succ j => simp at h4 ⊢; exact ow2 j e h4
      exact h.dj i j a d e h1 o1 h3 o2
    · cases j with
      | zero => simp at z ⊢; exact ow1 d z
      | succ j => simp at z ⊢; exact ow2 j d z
theorem argSA_len : ∀ {ls : List Bool} {rs rs' : List Rs} {ρ ρ' : List Sl}, argSA ls rs ρ = .ok rs' ρ' → rs.length = ls.length
  | [], [], _, _, _, _ => rfl
  | [], _ :: _, _, _, _, e => by cases e
  | _ :: _, [], _, _, _, e => by cases e
  | _ :: _, _ :: _, _, _, _, e => by
    obtain ⟨r1, ρ3, _, e2⟩ := bd_ok e
    obtain ⟨rs1, ρ4, e4, _⟩ := bd_ok e2
    rw [List.length_cons, List.length_cons, argSA_len e4]
theorem nm_not {i : Nat} : ∀ {rs : List Rs} {j : Nat}, rs.any (isNm i) = false → rs[j]? = some (.nm i) → False
  | [], _, _, h => by simp at h
  | r :: rs, 0, h, e => by
    simp at e; subst e
    simp [isNm] at h
  | r :: rs, j + 1, h, e => by
    rw [List.any_cons, Bool.or_eq_false_iff] at h
    exact nm_not h.2 (j := j) (by simpa using e)
theorem nm_tail {r : Rs} {rs : List Rs} (h : nmOk (r :: rs) = true) : nmOk rs = true ∧ ∀ i, r = .nm i → rs.any (isNm i) = false := by
  cases r with
  | nm i =>
    unfold nmOk at h
    rw [Bool.and_eq_true, Bool.not_eq_true'] at h
    exact ⟨h.2, fun j e => by cases e; exact h.1⟩
  | fz d => exact ⟨h, fun _ e => nomatch e⟩
  | ow d => exact ⟨h, fun _ e => nomatch e⟩
theorem nm_inj : ∀ {rs : List Rs} {j k i : Nat}, nmOk rs = true → rs[j]? = some (.nm i) → rs[k]? = some (.nm i) → j = k
  | [], _, _, _, _, h, _ => by simp at h
  | r :: rs, 0, 0, _, _, _, _ => rfl
  | r :: rs, 0, k + 1, i, h, e1, e2 => by
    simp at e1 e2
    exact (nm_not ((nm_tail h).2 i e1) e2).elim
  | r :: rs, j + 1, 0, i, h, e1, e2 => by
    simp at e1 e2
    exact (nm_not ((nm_tail h).2 i e2) e1).elim
  | r :: rs, j + 1, k + 1, i, h, e1, e2 => by
    rw [nm_inj (nm_tail h).1 (j := j) (k := k) (i := i) (by simpa using e1) (by simpa using e2)]
theorem wb_len : ∀ (rs : List Rs) (ss ρ : List Sl), (wb rs ss ρ).length = ρ.length
  | [], _, _ => rfl
  | .nm i :: rs, s :: ss, ρ => by unfold wb; rw [wb_len, List.length_set]
  | .fz _ :: rs, s :: ss, ρ => by unfold wb; rw [wb_len]
  | .ow _ :: rs, s :: ss, ρ => by unfold wb; rw [wb_len]
  | .nm _ :: _, [], _ => rfl
  | .fz _ :: _, [], _ => rfl
  | .ow _ :: _, [], _ => rfl
theorem wb_get : ∀ {rs : List Rs} {ss ρ : List Sl} {i : Nat}, nmOk rs = true → rs.length = ss.length → i < ρ.length →
    (∃ (j : Nat) (s : Sl), rs[j]? = some (.nm i) ∧ ss[j]? = some s ∧ (wb rs ss ρ)[i]? = some s) ∨ ((∀ j : Nat, rs[j]? ≠ some (Rs.nm i)) ∧ (wb rs ss ρ)[i]? = ρ[i]?)
  | [], _, _, _, _, _, _ => .inr ⟨fun j h => by simp at h, rfl⟩
  | _ :: _, [], _, _, _, h, _ => by simp at h
  | r :: rs, s :: ss, ρ, i, h, hl, hi => by
    have hl' : rs.length = ss.length := by simpa using hl
    obtain ⟨h1, h2⟩ := nm_tail h
    have other : ∀ ρ1 : List Sl, ρ1.length = ρ.length → wb (r :: rs) (s :: ss) ρ = wb rs ss ρ1 → r ≠ .nm i → ρ1[i]? = ρ[i]? →
        (∃ (j : Nat) (s' : Sl), (r :: rs)[j]? = some (.nm i) ∧ (s :: ss)[j]? = some s' ∧ (wb (r :: rs) (s :: ss) ρ)[i]? = some s') ∨ ((∀ j : Nat, (r :: rs)[j]? ≠ some (Rs.nm i)) ∧ (wb (r :: rs) (s :: ss) ρ)[i]? = ρ[i]?) := fun ρ1 l1 w1 n1 g1 => by
      rw [w1]
      rcases wb_get (ρ := ρ1) (i := i) h1 hl' (by omega) with ⟨j, s', q1, q2, q3⟩ | ⟨q1, q2⟩
      · exact .inl ⟨j + 1, s', by simpa using q1, by simpa using q2, q3⟩
      · refine .inr ⟨fun j => ?_, q2.trans g1⟩
        cases j with
        | zero => simp; exact n1
        | succ j => simpa using q1 j
    cases r with
    | fz d => exact other ρ rfl rfl (fun z => nomatch z) rfl
    | ow d => exact other ρ rfl rfl (fun z => nomatch z) rfl
    | nm k =>
      by_cases hk : k = i
      · subst hk
        refine .inl ⟨0, s, rfl, rfl, ?_⟩
        show (wb rs ss (ρ.set k s))[k]? = some s
        rcases wb_get (ss := ss) (ρ := ρ.set k s) (i := k) h1 hl' (by simpa using hi) with ⟨j, s', q1, q2, q3⟩ | ⟨q1, q2⟩
        · exact (nm_not (h2 k rfl) q1).elim
        · rw [q2, List.getElem?_set_self hi]
      · exact other (ρ.set k s) (by simp) rfl (fun z => hk (by cases z; rfl)) (List.getElem?_set_ne hk)
theorem vs_at {vs : List V} {j : Nat} {a : V} : (vs.map some)[j]? = some (some a) ↔ vs[j]? = some a := by
  rw [List.getElem?_map]
  cases vs[j]? <;> simp
theorem slots_at {rs : List Rs} {j : Nat} {s : Sl} (h : (rs.map (slotOf ρ))[j]? = some s) : ∃ r, rs[j]? = some r ∧ slotOf ρ r = s := by
  rw [List.getElem?_map] at h
  cases e : rs[j]? with
  | none => rw [e] at h; cases h
  | some r => rw [e] at h; exact ⟨r, rfl, by simpa using h⟩
/-- what is held through an argument: a new thing, or what a slot of ours holds -/
theorem args_hd {H₀ : Hp} {vs : List V} {rs : List Rs} (h : RsA K H₀ F H σ ρ vs rs) {j : Nat} {b : Addr} (q : HdAt (vs.map some) (rs.map (slotOf ρ)) j b) :
    (∃ d, rs[j]? = some (.ow d) ∧ vs[j]? = some (.ref b)) ∨ ∃ i, rs[j]? = some (.nm i) ∧ vs[j]? = some (.ref b) ∧ HdAt σ ρ i b := by
  rcases q with ⟨e, d, q⟩ | ⟨e, d, q⟩
  · obtain ⟨r, e1, e2⟩ := slots_at q
    have ev := vs_at.mp e
    cases r with
    | fz d' => cases e2
    | ow d' => exact .inl ⟨d', e1, ev⟩
    | nm i =>
      have hi : σ[i]? = some (some (.ref b)) := h.at_ j _ _ ev e1
      refine .inr ⟨i, e1, ev, .inl ⟨hi, d, ?_⟩⟩
      have e2 : (ρ[i]?).getD .em = .ow d := e2
      cases z : ρ[i]? with
      | none => rw [z] at e2; cases e2
      | some s => rw [z] at e2; rw [show s = .ow d from e2]
  · obtain ⟨r, e1, e2⟩ := slots_at q
    have ev := vs_at.mp e
    cases r with
    | fz d' => cases e2
    | ow d' => cases e2
    | nm i =>
      have hi : σ[i]? = some (some (.ref b)) := h.at_ j _ _ ev e1
      refine .inr ⟨i, e1, ev, .inr ⟨hi, d, ?_⟩⟩
      have e2 : (ρ[i]?).getD .em = .lk d := e2
      cases z : ρ[i]? with
      | none => rw [z] at e2; cases e2
      | some s => rw [z] at e2; rw [show s = .lk d from e2]
theorem args_ow {H₀ : Hp} {vs : List V} {rs : List Rs} (h : RsA K H₀ F H σ ρ vs rs) {j : Nat} {b : Addr} (q : OwAt (vs.map some) (rs.map (slotOf ρ)) j b) :
    (∃ d, rs[j]? = some (.ow d) ∧ vs[j]? = some (.ref b)) ∨ ∃ i, rs[j]? = some (.nm i) ∧ vs[j]? = some (.ref b) ∧ OwAt σ ρ i b := by
  obtain ⟨e, d, q⟩ := q
  obtain ⟨r, e1, e2⟩ := slots_at q
  have ev := vs_at.mp e
  cases r with
  | fz d' => cases e2
  | ow d' => exact .inl ⟨d', e1, ev⟩
  | nm i =>
    have hi : σ[i]? = some (some (.ref b)) := h.at_ j _ _ ev e1
    refine .inr ⟨i, e1, ev, hi, d, ?_⟩
    have e2 : (ρ[i]?).getD .em = .ow d := e2
    cases z : ρ[i]? with
    | none => rw [z] at e2; cases e2
    | some s => rw [z] at e2; rw [show s = .ow d from e2]
theorem args_sta {H₀ : Hp} {vs : List V} {rs : List Rs} (s : Sta K F H σ ρ) (h : RsA K H₀ F H σ ρ vs rs) (n : nmOk rs = true) : Sta K F H (vs.map some) (rs.map (slotOf ρ)) := by
  refine ⟨s.le, by rw [List.length_map, List.length_map, h.len], fun j sl q => ?_, fun j k b h1 h2 => ?_⟩
  · obtain ⟨r, e1, e2⟩ := slots_at q
    have hj : j < vs.length := by
      rw [h.len]
      exact (List.getElem?_eq_some_iff.mp e1).1
    have ev : vs[j]? = some vs[j] := List.getElem?_eq_getElem hj
    have z := h.at_ j _ r ev e1
    cases r with
    | fz d => subst e2; exact ⟨_, vs_at.mpr ev, z⟩
    | ow d =>
      subst e2
      obtain ⟨a, ea, _, hf, ho, _⟩ := z
      exact ⟨a, vs_at.mpr (by rw [ev, ea]), hf, ho⟩
    | nm i =>
      have hi : σ[i]? = some (some vs[j]) := z
      have e2 : (ρ[i]?).getD .em = sl := e2
      cases y : ρ[i]? with
      | none => rw [y] at e2; subst e2; trivial
      | some s' =>
        rw [y] at e2
        have e2 : s' = sl := e2
        subst e2
        have w := s.sl i s' y
        rw [hi] at w
        rw [show (vs.map some)[j]? = some (some vs[j]) from vs_at.mpr ev]
        exact w
  · rcases args_hd h h1 with ⟨d, a1, a2⟩ | ⟨i, a1, a2, a3⟩
    · rcases args_hd h h2 with ⟨d', b1, b2⟩ | ⟨i', b1, b2, b3⟩
      · exact h.dj j k b d d' a2 a1 b2 b1
      · obtain ⟨c, ec, _, _, _, hn⟩ := h.at_ j _ _ a2 a1
        cases ec
        exact (hn i' b3).elim
    · rcases args_hd h h2 with ⟨d', b1, b2⟩ | ⟨i', b1, b2, b3⟩
      · obtain ⟨c, ec, _, _, _, hn⟩ := h.at_ k _ _ b2 b1
        cases ec
        exact (hn i a3).elim
      · have e := s.dj i i' b a3 b3
        subst e
        exact nm_inj n a1 b1
theorem held_of {rs : List Rs} (h : rs.all (heldR ρ) = true) {j i : Nat} (e : rs[j]? = some (.nm i)) : ∃ d, ρ[i]? = some (.ow d) ∨ ρ[i]? = some (.lk d) := by
  have hm : Rs.nm i ∈ rs := List.mem_of_getElem? e
  have q := List.all_eq_true.mp h _ hm
  unfold heldR at q
  simp only at q
  cases z : ρ[i]? with
  | none => rw [z] at q; cases q
  | some s =>
    rw [z] at q
    cases s with
    | ow d => exact ⟨d, .inl rfl⟩
    | lk d => exact ⟨d, .inr rfl⟩
    | em => cases q
    | fz d => cases q
theorem call_ext {F₀ H₀ : Hp} {σ₀ : SS} {ρ₀ ρp : List Sl} {vs : List V} {rs : List Rs} (x : Ext K F₀ H₀ σ₀ ρ₀ F H σ ρ) (h : RsA K H₀ F H σ ρ vs rs) (n : nmOk rs = true) (hh : rs.all (heldR ρ) = true)
    (y : Ext K F H (vs.map some) (rs.map (slotOf ρ)) F' H' (vs.map some) ρp) : Ext K F₀ H₀ σ₀ ρ₀ F' H' σ (wb rs ρp ρ) ∧
      (∀ i b, HdAt σ (wb rs ρp ρ) i b → (∃ j, rs[j]? = some (.nm i) ∧ HdAt (vs.map some) ρp j b) ∨ ((∀ j : Nat, rs[j]? ≠ some (Rs.nm i)) ∧ HdAt σ ρ i b)) := by
  have hlp : rs.length = ρp.length := by
    have := y.st.len
    rw [List.length_map] at this
    rw [← h.len]; exact this
  -- where a slot of ours comes from
  have slot : ∀ (i : Nat) (s : Sl), (wb rs ρp ρ)[i]? = some s → (∃ j : Nat, rs[j]? = some (Rs.nm i) ∧ ρp[j]? = some s ∧ ∃ v, vs[j]? = some v ∧ σ[i]? = some (some v)) ∨ ((∀ j : Nat, rs[j]? ≠ some (Rs.nm i)) ∧ ρ[i]? = some s) := fun i s e => by
    have hi : i < ρ.length := by
      have := (List.getElem?_eq_some_iff.mp e).1
      rw [wb_len] at this; exact this
    rcases wb_get (ρ := ρ) n hlp hi with ⟨j, s', q1, q2, q3⟩ | ⟨q1, q2⟩
    · rw [e] at q3; cases q3
      have hj : j < vs.length := by
        rw [h.len]
        exact (List.getElem?_eq_some_iff.mp q1).1
      exact .inl ⟨j, q1, q2, vs[j], List.getElem?_eq_getElem hj, h.at_ j _ _ (List.getElem?_eq_getElem hj) q1⟩
    · exact .inr ⟨q1, q2 ▸ e⟩
  have hdw : ∀ i b, HdAt σ (wb rs ρp ρ) i b → (∃ j, rs[j]? = some (.nm i) ∧ HdAt (vs.map some) ρp j b) ∨ ((∀ j : Nat, rs[j]? ≠ some (Rs.nm i)) ∧ HdAt σ ρ i b) := fun i b q => by
    rcases q with ⟨e, d, q⟩ | ⟨e, d, q⟩
    · rcases slot i _ q with ⟨j, q1, q2, v, q3, q4⟩ | ⟨q1, q2⟩
      · rw [e] at q4; cases q4
        exact .inl ⟨j, q1, .inl ⟨vs_at.mpr q3, d, q2⟩⟩
      · exact .inr ⟨q1, .inl ⟨e, d, q2⟩⟩
    · rcases slot i _ q with ⟨j, q1, q2, v, q3, q4⟩ | ⟨q1, q2⟩
      · rw [e] at q4; cases q4
        exact .inl ⟨j, q1, .inr ⟨vs_at.mpr q3, d, q2⟩⟩
      · exact .inr ⟨q1, .inr ⟨e, d, q2⟩⟩
  -- a slot of ours that was not lent: the callee doesn't touch what it holds
  have apart : ∀ i b, (∀ j : Nat, rs[j]? ≠ some (Rs.nm i)) → HdAt σ ρ i b → ∀ j, ¬ HdAt (vs.map some) (rs.map (slotOf ρ)) j b := fun i b hn q j z => by
    rcases args_hd h z with ⟨d, a1, a2⟩ | ⟨i', a1, a2, a3⟩
    · obtain ⟨c, ec, _, _, _, hn'⟩ := h.at_ j _ _ a2 a1
      cases ec
      exact hn' i q
    · have e := x.st.dj i i' b q a3
      subst e
      exact hn j a1
  -- what a lent slot holds behind the call it held ahead of it
  have lent : ∀ i j b, rs[j]? = some (.nm i) → HdAt (vs.map some) ρp j b → HdAt σ ρ i b := fun i j b q z => by
    have e : (vs.map some)[j]? = some (some (.ref b)) := by rcases z with z | z <;> exact z.1
    have es : σ[i]? = some (some (.ref b)) := h.at_ j _ _ (vs_at.mp e) q
    obtain ⟨d, r | r⟩ := held_of hh q
    · exact .inl ⟨es, d, r⟩
    · exact .inr ⟨es, d, r⟩
  have old : ∀ i b, HdAt σ (wb rs ρp ρ) i b → HdAt σ ρ i b := fun i b q => by
    rcases hdw i b q with ⟨j, a1, a2⟩ | ⟨_, a⟩
    · exact lent i j b a1 a2
    · exact a
  have noOw : ∀ b, H₀ b ≠ none → (∀ i, ¬ OwAt σ₀ ρ₀ i b) → ∀ j, ¬ OwAt (vs.map some) (rs.map (slotOf ρ)) j b := fun b e nb j z => by
    rcases args_ow h z with ⟨d, a1, a2⟩ | ⟨i, a1, a2, a3⟩
    · obtain ⟨c, ec, h0, _⟩ := h.at_ j _ _ a2 a1
      cases ec
      exact e h0
    · rcases x.ow i b a3 with w | w
      · exact nb i w
      · exact e w
  have noHd : ∀ b, H₀ b ≠ none → (∀ i, ¬ HdAt σ₀ ρ₀ i b) → ∀ j, ¬ HdAt (vs.map some) (rs.map (slotOf ρ)) j b := fun b e nb j z => by
    rcases args_hd h z with ⟨d, a1, a2⟩ | ⟨i, a1, a2, a3⟩
    · obtain ⟨c, ec, h0, _⟩ := h.at_ j _ _ a2 a1
      cases ec
      exact e h0
    · rcases x.hd a3 with w | w
      · exact nb i w
      · exact e w
  refine ⟨⟨⟨y.st.le, by rw [wb_len]; exact x.st.len, fun i s q => ?_, fun i k b h1 h2 => x.st.dj i k b (old i b h1) (old k b h2)⟩, x.fr.trans y.fr,
    fun b o e nb => y.kp b o (x.kp b o e nb) (noOw b (by rw [e]; exact fun z => nomatch z) nb), fun b e nb q => y.nf b (x.gr b e) (noHd b e nb) (x.nf b e nb q), fun b e => y.gr b (x.gr b e), fun i b q => ?_, fun i b q => ?_⟩, hdw⟩
  · rcases slot i s q with ⟨j, q1, q2, v, q3, q4⟩ | ⟨q1, q2⟩
    · have z := y.st.sl j s q2
      rw [show (vs.map some)[j]? = some (some v) from vs_at.mpr q3] at z
      rw [q4]; exact z
    · have z := x.st.sl i s q2
      cases s with
      | em => trivial
      | fz d => obtain ⟨v, e, r⟩ := z; exact ⟨v, e, r.mono y.fr⟩
      | ow d =>
        obtain ⟨a, e, nf, o⟩ := z
        obtain ⟨ob, eo⟩ := o.some
        have ap := apart i a q1 (.inl ⟨e, d, q2⟩)
        exact ⟨a, e, y.nf a o.ne ap nf, o.mono y.fr ((y.kp a ob eo fun j w => ap j (.inl w)).trans eo.symm)⟩
      | lk d =>
        obtain ⟨a, e, nf, o⟩ := z
        obtain ⟨ob, eo⟩ := o.some
        have ap := apart i a q1 (.inr ⟨e, d, q2⟩)
        exact ⟨a, e, y.nf a o.ne ap nf, o.mono y.fr ((y.kp a ob eo fun j w => ap j (.inl w)).trans eo.symm)⟩
  · obtain ⟨e, d, q⟩ := q
    rcases slot i _ q with ⟨j, q1, q2, v, q3, q4⟩ | ⟨q1, q2⟩
    · rw [e] at q4; cases q4
      rcases y.ow j b ⟨vs_at.mpr q3, d, q2⟩ with w | w
      · rcases args_ow h w with ⟨d', a1, a2⟩ | ⟨i', a1, a2, a3⟩
        · rw [q1] at a1; cases a1
        · rw [q1] at a1; cases a1; exact x.ow i b a3
      · exact .inr (x.back w)
    · exact x.ow i b ⟨e, d, q2⟩
  · obtain ⟨e, d, q⟩ := q
    rcases slot i _ q with ⟨j, q1, q2, v, q3, q4⟩ | ⟨q1, q2⟩
    · rw [e] at q4; cases q4
      rcases y.lk j b ⟨vs_at.mpr q3, d, q2⟩ with w | w
      · rcases args_hd h w with ⟨d', a1, a2⟩ | ⟨i', a1, a2, a3⟩
        · rw [q1] at a1; cases a1
        · rw [q1] at a1; cases a1; exact x.hd a3
      · exact .inr (x.back w)
    · exact x.hd (.inr ⟨e, d, q2⟩)
/-- a def's promise, by its function of slots -/
def spD (K : KW) (n : Nat) (sem : M Rs) : Sp := fun vs H Q _ => vs.length = n ∧ tSem K sem (vs.map some) H Q
theorem sem_call {ls : List Bool} {sem : M Rs} {f : M (List Rs)} {n : Nat} {E : XK} (hn : ls.length = n) : ∀ σ H Q, tSem K (dCall ls sem f) σ H Q → tCall (spD K n sem) [] E (tSemA K f) σ H Q := fun σ H Q ⟨F, ρ, r, ρ', s, e, k⟩ => by
  obtain ⟨rs, ρ1, e1, e⟩ := bd_ok e
  obtain ⟨rs', ρ2, e2, e⟩ := bd_ok e
  split at e
  case isFalse => cases e
  case isTrue hc =>
    rw [Bool.and_eq_true] at hc
    refine ⟨F, ρ, rs, ρ1, s, e1, fun F1 H1 vs x1 q1 => ?_⟩
    obtain ⟨F2, x2, q2, _⟩ := argSA_ok x1 q1 e2
    have hlen : (vs ++ []).length = n := by
      rw [List.append_nil, q1.len, ← hn]
      exact argSA_len e2
    refine ⟨hlen, ?_⟩
    rw [List.append_nil]
    cases es : sem (rs'.map (slotOf ρ2)) with
    | bad => rw [es] at e; cases e
    | ok r0 ρp =>
      rw [es] at e
      refine ⟨F2, _, r0, ρp, args_sta x2.st q2 hc.1, es, fun F3 H3 v y qr => ?_⟩
      obtain ⟨x3, hd3⟩ := call_ext x2 q2 hc.1 hc.2 y
      cases r0 with
      | nm i => cases e
      | fz d => cases e; exact k F3 H3 v x3 qr
      | ow d =>
        cases e
        obtain ⟨a, ea, h0, hf, ho, hn⟩ := qr
        refine k F3 H3 v x3 ⟨a, ea, x2.back h0, hf, ho, fun i z => ?_⟩
        rcases hd3 i a z with ⟨j, _, w⟩ | ⟨_, w⟩
        · exact hn j w
        · obtain ⟨_, d', o⟩ := x2.st.held w
          exact o.ne h0
end
end DL
namespace DL
open PySem PySem.Spec PyProof.Rows L2
section
variable {K : KW} {F H F' H' : Hp} {σ σ' : SS} {ρ ρ' : List Sl} {Wx : WX}
/-! ### statements -/
/-- the slots of P hold what they held -/
def Prot (P : Nat → Prop) (σ σ' : SS) : Prop := σ'.length = σ.length ∧ ∀ i, P i → σ'[i]? = σ[i]?
theorem Prot.refl {P : Nat → Prop} : Prot P σ σ := ⟨rfl, fun _ _ => rfl⟩
theorem Prot.trans {P : Nat → Prop} {σ2 : SS} (a : Prot P σ σ') (b : Prot P σ' σ2) : Prot P σ σ2 := ⟨b.1.trans a.1, fun i h => (b.2 i h).trans (a.2 i h)⟩
/-- no wish: nothing is raised -/
abbrev Wno : WX := fun _ _ _ _ => False
/-- the exception as it flies: its class and its dict -/
def ExR (K : KW) (F H : Hp) (x : Xn) (cls : Value) (d : Option Addr) : Prop := (∃ C : Addr, PySem.W.nsIn K.k mainGlobals x.C = some (some (.ref C)) ∧ cls = .ref C) ∧ ∃ (dd : Addr) (fs : List (Str × V)) (v : V), d = some dd ∧ H dd = some (.xd fs) ∧ fs.lookup x.n = some v ∧ Rp K F v x.p
def SRok (K : KW) (Wx : WX) (P : Nat → Prop) (F H : Hp) (σ : SS) (ρ : List Sl) (Dn : Ends) : SR → Prop
  | .nx ρ' => ∀ F' H' σ', Ext K F H σ ρ F' H' σ' ρ' → Prot P σ σ' → Dn.nx σ' H'
  | .bk ρ' => ∀ F' H' σ', Ext K F H σ ρ F' H' σ' ρ' → Prot P σ σ' → Dn.bk σ' H'
  | .ct ρ' => ∀ F' H' σ', Ext K F H σ ρ F' H' σ' ρ' → Prot P σ σ' → Dn.ct σ' H'
  | .rt r ρ' => ∀ F' H' σ' v, Ext K F H σ ρ F' H' σ' ρ' → Prot P σ σ' → RsR K H F' H' σ' ρ' v r → Dn.rt v H'
  | .bad none => False
  | .bad (some (x, ρ')) => ∀ F' H' σ' cls d, Ext K F H σ ρ F' H' σ' ρ' → Prot P σ σ' → ExR K F' H' x cls d → Wx cls d σ' H'
def tSemS (K : KW) (Wx : WX) (P : Nat → Prop) (f : DS) : TS := fun Dn σ H => ∃ F ρ, Sta K F H σ ρ ∧ SRok K Wx P F H σ ρ Dn (f ρ)
theorem SRok.after {P : Nat → Prop} {F₀ H₀ : Hp} {σ₀ : SS} {ρ₀ : List Sl} {Dn : Ends} {sr : SR} (x : Ext K F₀ H₀ σ₀ ρ₀ F H σ ρ) (p : Prot P σ₀ σ) (h : SRok K Wx P F₀ H₀ σ₀ ρ₀ Dn sr) : SRok K Wx P F H σ ρ Dn sr := by
  cases sr with
  | nx ρ' => exact fun F' H' σ' y q => h F' H' σ' (x.trans y) (p.trans q)
  | bk ρ' => exact fun F' H' σ' y q => h F' H' σ' (x.trans y) (p.trans q)
  | ct ρ' => exact fun F' H' σ' y q => h F' H' σ' (x.trans y) (p.trans q)
  | rt r ρ' => exact fun F' H' σ' v y q k => h F' H' σ' v (x.trans y) (p.trans q) (k.base fun a z => x.back z)
  | bad xo => cases xo with
    | none => exact h
    | some xx => exact fun F' H' σ' cls d y q k => h F' H' σ' cls d (x.trans y) (p.trans q) k
def dSeq (f g : DS) : DS := fun ρ => match f ρ with
  | .nx ρ' => g ρ'
  | .rt r ρ' => .rt r ρ'
  | .bk ρ' => .bk ρ'
  | .ct ρ' => .ct ρ'
  | .bad x => .bad x
def dPass : DS := fun ρ => .nx ρ
def dBrk : DS := fun ρ => .bk ρ
def dCnt : DS := fun ρ => .ct ρ
def dRet (f : M Rs) : DS := fun ρ => match f ρ with
  | .ok r ρ' => .rt r ρ'
  | .bad => .bad none
def dDrop (f : M Rs) : DS := fun ρ => match f ρ with
  | .ok _ ρ' => .nx ρ'
  | .bad => .bad none
def dIf (c : M Bool) (f g : DS) : DS := fun ρ => match c ρ with
  | .ok true ρ' => f ρ'
  | .ok false ρ' => g ρ'
  | .bad => .bad none
section
variable {P : Nat → Prop}
theorem sem_seq {f g : DS} : ∀ D σ H, tSemS K Wx P (dSeq f g) D σ H → tSeq (tSemS K Wx P f) (tSemS K Wx P g) D σ H := fun D σ H ⟨F, ρ, s, h⟩ => by
  refine ⟨F, ρ, s, ?_⟩
  unfold dSeq at h
  cases e : f ρ with
  | nx ρ' => rw [e] at h; exact fun F' H' σ' x p => ⟨F', ρ', x.st, h.after x p⟩
  | rt r ρ' => rw [e] at h; exact h
  | bk ρ' => rw [e] at h; exact h
  | ct ρ' => rw [e] at h; exact h
  | bad xo => rw [e] at h; cases xo <;> exact h
theorem sem_pass : ∀ D σ H, tSemS K Wx P dPass D σ H → tNext D σ H := fun D σ H ⟨F, ρ, s, h⟩ => h F H σ (Ext.refl s) Prot.refl
theorem sem_cnt : ∀ D σ H, tSemS K Wx P dCnt D σ H → tCont D σ H := fun D σ H ⟨F, ρ, s, h⟩ => h F H σ (Ext.refl s) Prot.refl
theorem sem_ret {f : M Rs} : ∀ D σ H, tSemS K Wx P (dRet f) D σ H → tRet (tSem K f) D σ H := fun D σ H ⟨F, ρ, s, h⟩ => by
  unfold dRet at h
  cases e : f ρ with
  | bad => rw [e] at h; exact h.elim
  | ok r ρ' => rw [e] at h; exact ⟨F, ρ, r, ρ', s, e, fun F' H' v x q => h F' H' σ v x Prot.refl q⟩
theorem sem_drop {f : M Rs} : ∀ D σ H, tSemS K Wx P (dDrop f) D σ H → tDrop (tSem K f) D σ H := fun D σ H ⟨F, ρ, s, h⟩ => by
  unfold dDrop at h
  cases e : f ρ with
  | bad => rw [e] at h; exact h.elim
  | ok r ρ' => rw [e] at h; exact ⟨F, ρ, r, ρ', s, e, fun F' H' v x q => h F' H' σ x Prot.refl⟩
theorem sem_if {c : M Bool} {f g : DS} : ∀ D σ H, tSemS K Wx P (dIf c f g) D σ H → tIfS (tSemT K c) (tSemS K Wx P f) (tSemS K Wx P g) D σ H := fun D σ H ⟨F, ρ, s, h⟩ => by
  unfold dIf at h
  cases e : c ρ with
  | bad => rw [e] at h; exact h.elim
  | ok b ρ' =>
    rw [e] at h
    refine ⟨F, ρ, b, ρ', s, e, fun F' H' x => ?_⟩
    cases b with
    | true => exact iteT ⟨F', ρ', x.st, h.after x Prot.refl⟩
    | false => exact iteF ⟨F', ρ', x.st, h.after x Prot.refl⟩
section
variable {X : Cx} {st : Stmt} {rest : List Stmt} {f g : DS} {e : Expr} {fe : M Rs} {pos : Pos}
theorem sn : PSs X [] (tSemS X.kw Wx P dPass) := pssWeak pss_nil sem_pass
theorem sc (h1 : PS X st (tSemS X.kw Wx P f)) (h2 : PSs X rest (tSemS X.kw Wx P g)) : PSs X (st :: rest) (tSemS X.kw Wx P (dSeq f g)) := pssWeak (pss_cons h1 h2) sem_seq
theorem s1 (h1 : PS X st (tSemS X.kw Wx P f)) : PSs X [st] (tSemS X.kw Wx P f) := pss_one h1
theorem sret (h : PE X e (tSem X.kw fe)) : PS X (.Return (some e) pos) (tSemS X.kw Wx P (dRet fe)) := psWeak (ps_ret h) sem_ret
theorem sex (h : PE X e (tSem X.kw fe)) (hs : swapsWith e none pos.line X.env = pure false := by rfl) : PS X (.Expr e pos) (tSemS X.kw Wx P (dDrop fe)) := psWeak (ps_expr h hs) sem_drop
theorem sif {c : Expr} {a b : List Stmt} {tc : M Bool} (hc : PT X c (tSemT X.kw tc)) (ha : PSs X a (tSemS X.kw Wx P f)) (hb : PSs X b (tSemS X.kw Wx P g)) : PS X (.If c a b pos) (tSemS X.kw Wx P (dIf tc f g)) := psWeak (ps_if hc ha hb) sem_if
theorem scnt : PS X (.Continue pos) (tSemS X.kw Wx P dCnt) := psWeak ps_continue sem_cnt
end
/-! ### stores -/
theorem Ext.setSlot {F₀ H₀ : Hp} {σ₀ : SS} {ρ₀ : List Sl} {i : Nat} {v : V} {s : Sl} (x : Ext K F₀ H₀ σ₀ ρ₀ F H σ ρ) (hi : i < ρ.length)
    (hs : (∃ d, s = .fz d ∧ Rp K F v d) ∨ (∃ d a, s = .ow d ∧ v = .ref a ∧ H₀ a = none ∧ F a = none ∧ Ob K F H a d ∧ ∀ i, ¬ HdAt σ ρ i a)) :
    Ext K F₀ H₀ σ₀ ρ₀ F H (σ.set i (some v)) (ρ.set i s) := by
  have hiσ : i < σ.length := by rw [x.st.len]; exact hi
  have owB : ∀ j b, OwAt (σ.set i (some v)) (ρ.set i s) j b → (j ≠ i ∧ OwAt σ ρ j b) ∨ (j = i ∧ v = .ref b ∧ H₀ b = none ∧ ∀ i, ¬ HdAt σ ρ i b) := fun j b ⟨e, d, q⟩ => by
    by_cases hj : i = j
    · subst hj
      rw [List.getElem?_set_self hiσ] at e
      rw [List.getElem?_set_self hi] at q
      cases e; cases q
      rcases hs with ⟨d', e1, _⟩ | ⟨d', a, e1, e2, e3, _, _, e4⟩
      · cases e1
      · cases e2; exact .inr ⟨rfl, rfl, e3, e4⟩
    · rw [List.getElem?_set_ne hj] at e q
      exact .inl ⟨fun z => hj z.symm, e, d, q⟩
  have lkB : ∀ j b, LkAt (σ.set i (some v)) (ρ.set i s) j b → j ≠ i ∧ LkAt σ ρ j b := fun j b ⟨e, d, q⟩ => by
    by_cases hj : i = j
    · subst hj
      rw [List.getElem?_set_self hi] at q
      cases q
      rcases hs with ⟨d', e1, _⟩ | ⟨d', a, e1, _⟩ <;> cases e1
    · rw [List.getElem?_set_ne hj] at e q
      exact ⟨fun z => hj z.symm, e, d, q⟩
  refine ⟨⟨x.st.le, by rw [List.length_set, List.length_set]; exact x.st.len, fun j sl q => ?_, fun j k b h1 h2 => ?_⟩, x.fr, x.kp, x.nf, x.gr, fun j b q => ?_, fun j b q => ?_⟩
  · by_cases hj : i = j
    · subst hj
      rw [List.getElem?_set_self hi] at q; cases q
      rw [List.getElem?_set_self hiσ]
      rcases hs with ⟨d, rfl, r⟩ | ⟨d, a, rfl, rfl, _, h1, h2, _⟩
      · exact ⟨v, rfl, r⟩
      · exact ⟨a, rfl, h1, h2⟩
    · rw [List.getElem?_set_ne hj] at q ⊢
      exact x.st.sl j sl q
  · have c1 : (j ≠ i ∧ HdAt σ ρ j b) ∨ (j = i ∧ ∀ i, ¬ HdAt σ ρ i b) := by
      rcases h1 with h1 | h1
      · rcases owB j b h1 with ⟨n, z⟩ | ⟨n, _, _, z⟩
        · exact .inl ⟨n, .inl z⟩
        · exact .inr ⟨n, z⟩
      · exact .inl ⟨(lkB j b h1).1, .inr (lkB j b h1).2⟩
    have c2 : (k ≠ i ∧ HdAt σ ρ k b) ∨ (k = i ∧ ∀ i, ¬ HdAt σ ρ i b) := by
      rcases h2 with h2 | h2
      · rcases owB k b h2 with ⟨n, z⟩ | ⟨n, _, _, z⟩
        · exact .inl ⟨n, .inl z⟩
        · exact .inr ⟨n, z⟩
      · exact .inl ⟨(lkB k b h2).1, .inr (lkB k b h2).2⟩
    rcases c1 with ⟨_, z1⟩ | ⟨n1, z1⟩
    · rcases c2 with ⟨_, z2⟩ | ⟨n2, z2⟩
      · exact x.st.dj j k b z1 z2
      · exact (z2 j z1).elim
    · rcases c2 with ⟨_, z2⟩ | ⟨n2, z2⟩
      · exact (z1 k z2).elim
      · rw [n1, n2]
  · rcases owB j b q with ⟨_, z⟩ | ⟨_, _, z, _⟩
    · exact x.ow j b z
    · exact .inr z
  · exact x.lk j b (lkB j b q).2
/-- what slot i becomes by r -/
def setR (i : Nat) (r : Rs) : List Sl → Option (List Sl) := fun ρ => if i < ρ.length then match r with
    | .fz d => some (ρ.set i (.fz d))
    | .ow d => some (ρ.set i (.ow d))
    | .nm j => match frz (.nm j) ρ with
      | .ok d ρ' => some (ρ'.set i (.fz d))
      | .bad => none
  else none
def dSet (i : Nat) (f : M Rs) : DS := fun ρ => match f ρ with
  | .bad => .bad none
  | .ok r ρ1 => match setR i r ρ1 with
    | some ρ2 => .nx ρ2
    | none => .bad none
theorem frz_len {r : Rs} {d : D} (h : frz r ρ = .ok d ρ') : ρ'.length = ρ.length := by
  cases r with
  | fz d' => cases h; rfl
  | ow d' => cases h; rfl
  | nm i =>
    unfold frz at h
    simp only at h
    cases q : ρ[i]? with
    | none => rw [q] at h; cases h
    | some s =>
      rw [q] at h
      cases s <;> cases h <;> simp
theorem setR_ok {F₀ H₀ : Hp} {σ₀ : SS} {ρ₀ : List Sl} {i : Nat} {v : V} {r : Rs} (x : Ext K F₀ H₀ σ₀ ρ₀ F H σ ρ) (h : RsR K H₀ F H σ ρ v r) (e : setR i r ρ = some ρ') :
    ∃ F', Ext K F₀ H₀ σ₀ ρ₀ F' H (σ.set i (some v)) ρ' := by
  unfold setR at e
  split at e
  case isFalse => cases e
  case isTrue hi =>
    cases r with
    | fz d => cases e; exact ⟨F, x.setSlot hi (.inl ⟨d, rfl, h⟩)⟩
    | ow d =>
      cases e
      obtain ⟨a, e1, e2, e3, e4, e5⟩ := h
      exact ⟨F, x.setSlot hi (.inr ⟨d, a, rfl, e1, e2, e3, e4, e5⟩)⟩
    | nm j =>
      cases q : frz (.nm j) ρ with
      | bad => simp only [q] at e; cases e
      | ok d ρ1 =>
        simp only [q] at e
        cases e
        obtain ⟨F', x', rp⟩ := frz_ok x h q
        exact ⟨F', x'.setSlot (by rw [frz_len q]; exact hi) (.inl ⟨d, rfl, rp⟩)⟩
theorem prot_set {i : Nat} {v : Option V} (h : ¬ P i) : Prot P σ (σ.set i v) := ⟨by rw [List.length_set], fun j hj => by
  rw [List.getElem?_set_ne]
  exact fun z => h (z ▸ hj)⟩
theorem sem_set {i : Nat} {f : M Rs} (hP : ¬ P i) : ∀ D σ H, tSemS K Wx P (dSet i f) D σ H → tAsg (tSem K f) (gName i) D σ H := fun D σ H ⟨F, ρ, s, h⟩ => by
  unfold dSet at h
  cases e : f ρ with
  | bad => rw [e] at h; exact h.elim
  | ok r ρ1 =>
    rw [e] at h
    cases e2 : setR i r ρ1 with
    | none => simp only [e2] at h; exact h.elim
    | some ρ2 =>
      simp only [e2] at h
      refine ⟨F, ρ, r, ρ1, s, e, fun F' H' v x q => ?_⟩
      obtain ⟨F2, x2⟩ := setR_ok x q e2
      exact h F2 H' _ x2 (prot_set hP)
/-! ### targets that take values for good -/
abbrev DG := D → List Sl → Option (List Sl)
def tSemG (K : KW) (P : Nat → Prop) (g : DG) : TG := fun v σ H Q => ∃ F ρ d ρ', Sta K F H σ ρ ∧ Rp K F v d ∧ g d ρ = some ρ' ∧ ∀ σ', Ext K F H σ ρ F H σ' ρ' → Prot P σ σ' → Q σ' H
abbrev DGs := List D → List Sl → Option (List Sl)
def tSemGs (K : KW) (P : Nat → Prop) (g : DGs) : TGs := fun v σ H Q => ∃ F ρ d ρ', Sta K F H σ ρ ∧ RpA K F v d ∧ g d ρ = some ρ' ∧ ∀ σ', Ext K F H σ ρ F H σ' ρ' → Prot P σ σ' → Q σ' H
theorem pgWeak {X : Cx} {e : Expr} {t t' : TG} (h : PG X e t) (w : ∀ v σ H Q, t' v σ H Q → t v σ H Q) : PG X e t' :=
  ⟨fun pins s σ H v u Q I r q => h.run pins s σ H v u Q I r (w v σ H Q q)⟩
theorem pgsWeak {X : Cx} {e : List Expr} {t t' : TGs} (h : PGs X e t) (w : ∀ v σ H Q, t' v σ H Q → t v σ H Q) : PGs X e t' :=
  ⟨fun pins s σ H v u Q I r q => h.run pins s σ H v u Q I r (w v σ H Q q)⟩
def gN (i : Nat) : DG := fun d ρ => if i < ρ.length then some (ρ.set i (.fz d)) else none
def gsN : DGs := fun ds ρ => match ds with
  | [] => some ρ
  | _ => none
def gsC (g : DG) (gs : DGs) : DGs := fun ds ρ => match ds with
  | d :: ds => match g d ρ with
    | some ρ' => gs ds ρ'
    | none => none
  | [] => none
def gT (n : Nat) (gs : DGs) : DG := fun d ρ => match d with
  | .tuple ds => if ds.length = n then gs ds ρ else none
  | .list ds => if ds.length = n then gs ds ρ else none
  | _ => none
/-! a, b = a list -/
theorem draw_list {prog : Program} {w : World} {A : Around} {E : Value → Shared → Prop} {it t : Addr} {items : Array Value} (hne : t ≠ it) : ∀ (n i : Nat) (s : Shared) (Q : List Value → Shared → Prop), s.heap.IsListIter it t i → s.heap.IsList t items → i + n ≤ items.size →
    (∀ h', h'.IsListIter it t (i + n) → Heap.SameBut it s.heap h' → Q ((items.toList.drop i).take n) { s with heap := h' }) → wpAny (model prog w) A (draw (.ref it) n) Q E s
  | 0, i, s, Q, hit, _, _, hQ => by
    show wpAny _ _ (pure []) Q E s
    exact wpAny_pure (by simpa using hQ s.heap hit (Heap.SameBut.refl ..))
  | n + 1, i, s, Q, hit, ht, hle, hQ => by
    have hlt : i < items.size := by omega
    show wpAny _ _ (pyNext (.ref it) >>= _) Q E s
    refine wpAny_bind (wpAny_pyNext_list_item hit ht (x := items[i]) (by simp [hlt]) fun h₁ hit₁ hs₁ => ?_)
    refine wpAny_bind (wpAny_holding (draw_list hne n (i + 1) _ _ hit₁ (ht.extBut hs₁.extBut hne) (by omega) fun h₂ hit₂ hs₂ => wpAny_pure ?_))
    have hd : items.toList.drop i = items[i] :: items.toList.drop (i + 1) := by simp [List.drop_eq_getElem_cons, hlt]
    have := hQ h₂ (by rw [show i + (n + 1) = i + 1 + n by omega]; exact hit₂) (hs₁.trans hs₂)
    rw [hd, List.take_succ_cons] at this
    exact this
theorem unpackItems_list {prog : Program} {w : World} {A : Around} {E : Value → Shared → Prop} {s : Shared} {t : Addr} {items : Array Value} {Q : List Value → Shared → Prop} (hh : A.handled = none) (ht : s.heap.IsList t items)
    (hQ : ∀ h', Heap.ExtBut s.heap.objs.size s.heap h' → Q items.toList { s with heap := h' }) : wpAny (model prog w) A (unpackItems (.ref t) items.size none) Q E s := by
  have hlt : t ≠ s.heap.objs.size := by obtain ⟨o, ho, _⟩ := ht; exact Nat.ne_of_lt (Heap.lt_size ho)
  unfold unpackItems
  refine wpAny_bind ?_
  · unfold notIterableAtAll
    refine wpAny_bind (wpAny_specialOf ht.typeIs slot_list_iter.lookup ?_)
    refine wpAny_pure ?_
    simp only [Bool.false_eq_true, if_false]
    refine wpAny_bind (wpAny_holding (wpAny_pyIter_list ht ?_))
    refine wpAny_bind (wpAny_holding (draw_list hlt items.size 0 _ _ ⟨_, Heap.get?_push_size _ rfl, rfl, rfl⟩ (let ⟨o, ho, r⟩ := ht; ⟨o, Heap.get?_push_of_some _ ho, r⟩) (by omega) fun h₁ hit₁ hs₁ => ?_))
    have hall : List.take items.size (List.drop 0 items.toList) = items.toList := by
      rw [List.drop_zero]; exact List.take_of_length_le (by simp)
    rw [hall]
    rw [if_neg (by simp)]
    have ht₁ : h₁.IsList t items := Heap.IsList.extBut (let ⟨o, ho, r⟩ := ht; ⟨o, Heap.get?_push_of_some _ ho, r⟩) hs₁.extBut hlt
    refine wpAny_bind (wpAny_holding (wpAny_pyNext_list_end hh hit₁ ht₁ (by simp) fun h₂ he₂ => ?_))
    simp only [Option.isSome_none, Bool.false_eq_true, if_false]
    refine wpAny_pure (hQ h₂ fun b o hb e => he₂ b o hb (hs₁.extBut b o hb (Heap.get?_push_of_some _ e)))
theorem assign_Tuple_list {prog : Program} {w : World} {A : Around} {E : Value → Shared → Prop} {s : Shared} {env : Env} {elts : List Expr} {x1} {pos : Pos} {t : Addr} {items : Array Value} {Q : Unit → Shared → Prop} (hh : A.handled = none) (ht : s.heap.IsList t items)
    (hn : (assignEach elts env).length = items.size) (hstar : (assignEach elts env).findIdx? (·.1) = none)
    (h : ∀ h', Heap.ExtBut s.heap.objs.size s.heap h' → wpAny (model prog w) A (assignInOrder ((assignEach elts env).map (·.2)) items.toList) Q E { s with heap := h' }) :
    wpAny (model prog w) A (assign (.Tuple elts x1 pos) env (.ref t)) Q E s := by
  rw [assign_Tuple]
  refine wpAny_bind (wpAny_standAt ?_)
  unfold unpack
  rw [hn, hstar]
  exact wpAny_bind (wpAny_holding (unpackItems_list hh ht h))
def gTupL (K : KW) (n : Nat) (t : TGs) : TG := fun v σ H Q => ∃ a xs, v = .ref a ∧ SqL K H a xs ∧ xs.length = n ∧ t xs σ H Q
theorem pg_tupL {X : Cx} {pos : Pos} {es : List Expr} {k : Nat} {t : TGs} {n : Nat} (hc : X.calm = true) (h : PGs X es t)
    (hn : (assignEach es X.env).length = n := by rfl) (hst : (assignEach es X.env).findIdx? (·.1) = none := by rfl) : PG X (.Tuple es k pos) (gTupL X.kw n t) := by
  refine ⟨fun pins s σ H v u Q I r hw => ?_⟩
  obtain ⟨a, xs, e1, hq, hl, hw⟩ := hw
  subst e1
  cases r
  obtain ⟨its, rv, ht, hz⟩ := I.list hq
  refine assign_Tuple_list (I.ok.hd hc) ht.isList (by simp [hn, ← hl, rv.length]) hst fun h' hx => ?_
  have I1 : Inv X pins σ H { s with heap := h' } := I.kept (t' := s.toks) fun b o e => hx b o (Nat.ne_of_lt (Heap.lt_size e)) e
  exact h.run pins _ σ H xs _ Q I1 (by simpa using rv) hw
theorem pgOr {X : Cx} {e : Expr} {t t' : TG} (h : PG X e t) (h' : PG X e t') : PG X e fun v σ H Q => t v σ H Q ∨ t' v σ H Q := ⟨fun pins s σ H v u Q I r q => q.elim (h.run pins s σ H v u Q I r) (h'.run pins s σ H v u Q I r)⟩
theorem sem_gN {i : Nat} (hP : ¬ P i) : ∀ v σ H Q, tSemG K P (gN i) v σ H Q → gName i v σ H Q := fun v σ H Q ⟨F, ρ, d, ρ', s, r, e, k⟩ => by
  unfold gN at e
  split at e
  case isFalse => cases e
  case isTrue hi => cases e; exact k _ ((Ext.refl s).setSlot hi (.inl ⟨d, rfl, r⟩)) (prot_set hP)
theorem sem_gsN : ∀ v σ H Q, tSemGs K P gsN v σ H Q → gNil v σ H Q := fun v σ H Q ⟨F, ρ, d, ρ', s, r, e, k⟩ => by
  cases d with
  | cons _ _ => cases e
  | nil => cases e; cases r; exact ⟨rfl, k _ (Ext.refl s) Prot.refl⟩
theorem sem_gsC {g : DG} {gs : DGs} : ∀ v σ H Q, tSemGs K P (gsC g gs) v σ H Q → gCons (tSemG K P g) (tSemGs K P gs) v σ H Q := fun v σ H Q ⟨F, ρ, d, ρ', s, r, e, k⟩ => by
  cases d with
  | nil => cases e
  | cons d ds =>
    unfold gsC at e
    simp only at e
    cases e1 : g d ρ with
    | none => rw [e1] at e; cases e
    | some ρ1 =>
      rw [e1] at e
      cases r with
      | cons r rr =>
        exact ⟨_, _, rfl, F, ρ, d, ρ1, s, r, e1, fun σ1 x1 p1 => ⟨F, ρ1, ds, ρ', x1.st, rr, e, fun σ2 x2 p2 => k σ2 (x1.trans x2) (p1.trans p2)⟩⟩
theorem sem_gT {n : Nat} {gs : DGs} : ∀ v σ H Q, tSemG K P (gT n gs) v σ H Q → gTup K n (tSemGs K P gs) v σ H Q ∨ gTupL K n (tSemGs K P gs) v σ H Q := fun v σ H Q ⟨F, ρ, d, ρ', s, r, e, k⟩ => by
  cases d with
  | tuple ds =>
    unfold gT at e
    simp only at e
    split at e
    case isFalse => cases e
    case isTrue hn =>
      cases r with
      | tup h rr => exact .inl ⟨_, _, rfl, (tupD_mono s.le h).sq, by rw [rr.length]; exact hn, F, ρ, ds, ρ', s, rr, e, k⟩
  | list ds =>
    unfold gT at e
    simp only at e
    split at e
    case isFalse => cases e
    case isTrue hn =>
      cases r with
      | lst h rr => exact .inr ⟨_, _, rfl, .inl (rd_mono s.le h), by rw [rr.length]; exact hn, F, ρ, ds, ρ', s, rr, e, k⟩
  | _ => cases e
section
variable {X : Cx} {e : Expr} {es : List Expr} {g : DG} {gs : DGs} {pos : Pos}
theorem gn {i : Nat} {x : Str} (hP : ¬ P i) (hN : X.N.Nodup) (hi : X.N[i]? = some x) (hx : Loc X.env.scope x) (hf : X.fn x = true ∨ X.env.scope.names.lookup x = some .local := by first | exact .inl rfl | exact .inr rfl | assumption) : PG X (.Name x pos) (tSemG X.kw P (gN i)) :=
  pgWeak (pg_name hN hi hx hf) (sem_gN hP)
theorem gsn : PGs X [] (tSemGs X.kw P gsN) := pgsWeak pgs_nil sem_gsN
theorem gsc (h1 : PG X e (tSemG X.kw P g)) (h2 : PGs X es (tSemGs X.kw P gs))
    (hs : (assignEach (e :: es) X.env).map (·.2) = assign e X.env :: (assignEach es X.env).map (·.2) := by rfl) : PGs X (e :: es) (tSemGs X.kw P (gsC g gs)) := pgsWeak (pgs_cons h1 h2 hs) sem_gsC
theorem gt {k n : Nat} (hc : X.calm = true) (h : PGs X es (tSemGs X.kw P gs)) (hn : (assignEach es X.env).length = n := by rfl) (hst : (assignEach es X.env).findIdx? (·.1) = none := by rfl) : PG X (.Tuple es k pos) (tSemG X.kw P (gT n gs)) :=
  pgWeak (pgOr (pg_tup hc h hn hst) (pg_tupL hc h hn hst)) sem_gT
end
/-- a, b = a tuple; the targets take values for good -/
def dAsg (g : DG) (f : M Rs) : DS := fun ρ => match bd f frz ρ with
  | .bad => .bad none
  | .ok d ρ1 => match g d ρ1 with
    | some ρ2 => .nx ρ2
    | none => .bad none
theorem sem_asg {g : DG} {f : M Rs} : ∀ D σ H, tSemS K Wx P (dAsg g f) D σ H → tAsg (tSem K f) (tSemG K P g) D σ H := fun D σ H ⟨F, ρ, s, h⟩ => by
  unfold dAsg at h
  cases e : bd f frz ρ with
  | bad => rw [e] at h; exact h.elim
  | ok d ρ1 =>
    rw [e] at h
    cases e2 : g d ρ1 with
    | none => simp only [e2] at h; exact h.elim
    | some ρ2 =>
      simp only [e2] at h
      obtain ⟨r, ρ3, e3, e4⟩ := bd_ok e
      refine ⟨F, ρ, r, ρ3, s, e3, fun F' H' v x q => ?_⟩
      obtain ⟨F2, x2, rp⟩ := frz_ok x q e4
      exact ⟨F2, ρ1, d, ρ2, x2.st, rp, e2, fun σ' y p => h F2 H' σ' (x2.trans y) p⟩
/-- a, b = x, y -/
def setQ (i : Nat) (r : Rs) : List Sl → Option (List Sl) := fun ρ => if i < ρ.length then match r with
    | .fz d => some (ρ.set i (.fz d))
    | .ow d => some (ρ.set i (.ow d))
    | .nm _ => none
  else none
def setQs : List Nat → List Rs → List Sl → Option (List Sl)
  | [], [], ρ => some ρ
  | i :: is, r :: rs, ρ => match setQ i r ρ with
    | some ρ' => setQs is rs ρ'
    | none => none
  | _, _, _ => none
def dPar (is : List Nat) (f : M (List Rs)) : DS := fun ρ => match bd f (argSA (is.map fun _ => false)) ρ with
  | .ok rs ρ2 => match setQs is rs ρ2 with
      | some ρ3 => .nx ρ3
      | none => .bad none
  | .bad => .bad none
def setVs : List Nat → List V → SS → SS
  | i :: is, v :: vs, σ => setVs is vs (σ.set i (some v))
  | _, _, σ => σ
theorem setQs_ok {F₀ H₀ : Hp} {σ₀ : SS} {ρ₀ : List Sl} : ∀ {is : List Nat} {vs : List V} {rs : List Rs} {σ : SS} {ρ ρ' : List Sl}, (∀ i ∈ is, ¬ P i) → Ext K F₀ H₀ σ₀ ρ₀ F H σ ρ → RsA K H₀ F H σ ρ vs rs → setQs is rs ρ = some ρ' →
    vs.length = is.length ∧ Ext K F₀ H₀ σ₀ ρ₀ F H (setVs is vs σ) ρ' ∧ Prot P σ (setVs is vs σ)
  | [], [], [], σ, ρ, ρ', _, x, h, e => by cases e; exact ⟨rfl, x, Prot.refl⟩
  | [], _, _ :: _, _, _, _, _, _, h, e => by cases e
  | _ :: _, _, [], _, _, _, _, _, h, e => by cases e
  | _, [], _ :: _, _, _, _, _, _, h, e => by have := h.len; simp at this
  | _, _ :: _, [], _, _, _, _, _, h, e => by have := h.len; simp at this
  | i :: is, v :: vs, r :: rs, σ, ρ, ρ', hP, x, h, e => by
    unfold setQs at e
    cases e1 : setQ i r ρ with
    | none => simp only [e1] at e; cases e
    | some ρ1 =>
      simp only [e1] at e
      have hd : ∃ ρ1', ρ1' = ρ1 ∧ Ext K F₀ H₀ σ₀ ρ₀ F H (σ.set i (some v)) ρ1 ∧ ∀ j b, HdAt (σ.set i (some v)) ρ1 j b → HdAt σ ρ j b ∨ ∃ d, r = .ow d ∧ v = .ref b := by
        refine ⟨ρ1, rfl, ?_⟩
        unfold setQ at e1
        split at e1
        case isFalse => cases e1
        case isTrue hi =>
          have hiσ : i < σ.length := by rw [x.st.len]; exact hi
          have q := h.tail.1
          cases r with
          | nm k => cases e1
          | fz d =>
            cases e1
            refine ⟨x.setSlot hi (.inl ⟨d, rfl, q⟩), fun j b z => .inl ?_⟩
            by_cases hj : i = j
            · subst hj
              rcases z with ⟨_, d', z⟩ | ⟨_, d', z⟩ <;> rw [List.getElem?_set_self hi] at z <;> cases z
            · rcases z with ⟨e, d', z⟩ | ⟨e, d', z⟩
              · rw [List.getElem?_set_ne hj] at e z; exact .inl ⟨e, d', z⟩
              · rw [List.getElem?_set_ne hj] at e z; exact .inr ⟨e, d', z⟩
          | ow d =>
            cases e1
            obtain ⟨a, h1, h2, h3, h4, h5⟩ := q
            refine ⟨x.setSlot hi (.inr ⟨d, a, rfl, h1, h2, h3, h4, h5⟩), fun j b z => ?_⟩
            by_cases hj : i = j
            · subst hj
              have eb : v = .ref b := by
                rcases z with ⟨e, d', z⟩ | ⟨e, d', z⟩ <;> rw [List.getElem?_set_self hiσ] at e <;> cases e <;> rfl
              exact .inr ⟨d, rfl, eb⟩
            · rcases z with ⟨e, d', z⟩ | ⟨e, d', z⟩
              · rw [List.getElem?_set_ne hj] at e z; exact .inl (.inl ⟨e, d', z⟩)
              · rw [List.getElem?_set_ne hj] at e z; exact .inl (.inr ⟨e, d', z⟩)
      obtain ⟨_, _, x1, hb⟩ := hd
      have h' : RsA K H₀ F H (σ.set i (some v)) ρ1 vs (rs.map fun r => match r with | .nm _ => .fz .none | r => r) → True := fun _ => trivial
      have h1 : (∀ r ∈ rs, ∀ k, r ≠ .nm k) := by
        have : ∀ {is : List Nat} {rs : List Rs} {ρ ρ' : List Sl}, setQs is rs ρ = some ρ' → ∀ r ∈ rs, ∀ k, r ≠ .nm k := by
          intro is rs
          induction rs generalizing is with
          | nil => intro _ _ _ r hr; cases hr
          | cons r rs ih =>
            intro ρ ρ' e r' hr k z
            cases is with
            | nil => cases e
            | cons i is =>
              unfold setQs at e
              cases e1 : setQ i r ρ with
              | none => simp only [e1] at e; cases e
              | some ρ1 =>
                simp only [e1] at e
                rcases List.mem_cons.mp hr with y | y
                · subst y; subst z
                  unfold setQ at e1
                  split at e1 <;> cases e1
                · exact ih e r' y k z
        exact this e
      have h2 : RsA K H₀ F H (σ.set i (some v)) ρ1 vs rs := ⟨h.tail.2.len, fun j w s g1 g2 => ?_, h.tail.2.dj⟩
      · obtain ⟨l, x2, p⟩ := setQs_ok (fun j hj => hP j (List.mem_cons_of_mem _ hj)) x1 h2 e
        exact ⟨by rw [List.length_cons, List.length_cons, l], x2, (prot_set (hP i List.mem_cons_self)).trans p⟩
      · have q := h.tail.2.at_ j w s g1 g2
        cases s with
        | fz d => exact q
        | nm k => exact (h1 _ (List.mem_of_getElem? g2) k rfl).elim
        | ow d =>
          obtain ⟨a, q1, q2, q3, q4, q5⟩ := q
          refine ⟨a, q1, q2, q3, q4, fun k z => ?_⟩
          rcases hb k a z with y | ⟨d', y1, y2⟩
          · exact q5 k y
          · have := h.dj 0 (j + 1) a d' d (by rw [y2]; rfl) (by rw [y1]; rfl) (by rw [← q1]; simpa using g1) (by simpa using g2)
            omega
theorem sem_par {i j : Nat} {f : M (List Rs)} (hi : ¬ P i) (hj : ¬ P j) : ∀ D σ H, tSemS K Wx P (dPar [i, j] f) D σ H → tPar i j (tSemA K f) D σ H := fun D σ H ⟨F, ρ, s, h⟩ => by
  unfold dPar at h
  cases e : bd f (argSA ([i, j].map fun _ => false)) ρ with
  | bad => rw [e] at h; exact h.elim
  | ok rs ρ1 =>
    rw [e] at h
    cases e2 : setQs [i, j] rs ρ1 with
    | none => simp only [e2] at h; exact h.elim
    | some ρ2 =>
      simp only [e2] at h
      obtain ⟨r, ρ3, e3, e4⟩ := bd_ok e
      refine ⟨F, ρ, r, ρ3, s, e3, fun F' H' vs x q => ?_⟩
      obtain ⟨F2, x2, q2, _⟩ := argSA_ok x q e4
      obtain ⟨l, x3, p⟩ := setQs_ok (P := P) (fun k hk => by
        rcases List.mem_cons.mp hk with z | z
        · rw [z]; exact hi
        · rw [List.mem_singleton.mp z]; exact hj) x2 q2 e2
      match vs, l with
      | [v, w], _ => exact ⟨v, w, rfl, h F2 H' _ x3 p⟩
section
variable {X : Cx} {e : Expr} {f : M Rs} {pos : Pos}
theorem sset {i : Nat} {x : Str} {pos' : Pos} (hP : ¬ P i) (hN : X.N.Nodup) (hi : X.N[i]? = some x) (hx : Loc X.env.scope x) (he : PE X e (tSem X.kw f)) (hs : swapsWith e (some (.Name x pos')) pos.line X.env = pure false := by rfl)
    (hf : X.fn x = true ∨ X.env.scope.names.lookup x = some .local := by first | exact .inl rfl | exact .inr rfl | assumption) : PS X (.Assign [.Name x pos'] e pos) (tSemS X.kw Wx P (dSet i f)) := psWeak (ps_set hN hi hx he hs hf) (sem_set hP)
theorem sasg {tg : Expr} {g : DG} (he : PE X e (tSem X.kw f)) (hg : PG X tg (tSemG X.kw P g)) (hs : swapsWithSole [tg] e pos.line X.env = pure false := by rfl) (hw : swappedStores [tg] e X.env = pure none := by rfl)
    (h1 : (assignEach [tg] X.env).map (·.2) = [assign tg X.env] := by rfl) : PS X (.Assign [tg] e pos) (tSemS X.kw Wx P (dAsg g f)) := psWeak (ps_asg he hg hs hw h1) sem_asg
theorem spar {i j : Nat} {x y : Str} {a b : Expr} {fa : M (List Rs)} {px py pt : Pos} {kt k2 pt2} (h1 : ¬ P i) (h2 : ¬ P j) (hc : X.calm = true) (hN : X.N.Nodup) (hi : X.N[i]? = some x) (hj : X.N[j]? = some y) (hij : i ≠ j)
    (hx : X.env.scope.names.lookup x = some .local) (hy : X.env.scope.names.lookup y = some .local) (ha : PA X [a, b] (tSemA X.kw fa))
    (hw : swappedStores [.Tuple [.Name x px, .Name y py] kt pt] (.Tuple [a, b] k2 pt2) X.env = pure (some [x, y]) := by rfl)
    (hs : swapsWithSole [.Tuple [.Name x px, .Name y py] kt pt] (.Tuple [a, b] k2 pt2) pos.line X.env = pure false := by rfl) :
    PS X (.Assign [.Tuple [.Name x px, .Name y py] kt pt] (.Tuple [a, b] k2 pt2) pos) (tSemS X.kw Wx P (dPar [i, j] fa)) := psWeak (ps_par hc hN hi hj hij hx hy ha hw hs) (sem_par h1 h2)
end
end
end
end DL
namespace DL
open PySem PySem.Spec PyProof.Rows L2
variable {Wx : WX}
section
variable {K : KW} {F H F' H' : Hp} {σ σ' : SS} {ρ ρ' : List Sl}
/-! ### what is walked -/
/-- the iterator J yields the items ds, from heaps that hold what F0 and N hold -/
def ItOk (K : KW) (F0 N : Hp) (J : It) (ds : List D) : Prop := ∀ (i : Nat) (F H : Hp), Same F0 F → Same F H → Same N H →
  (∀ d, ds[i]? = some d → J.go i H ∧ ∀ x H', J.yld i H x H' → ∃ F', Grow F H F' H' ∧ Rp K F' x d) ∧ (ds.length = i → J.stop i H)
abbrev Wk := List D × Option Nat
def unl (l : Option Nat) (ρ : List Sl) : List Sl := match l with
  | none => ρ
  | some i => match ρ[i]? with
    | some (.lk d) => ρ.set i (.ow d)
    | _ => ρ
/-- a lock may be opened again -/
def UnlOk (H : Hp) (σ : SS) (ρ ρ' : List Sl) (l : Option Nat) : Prop := ∀ i, l = some i → (∃ a, LkAt σ ρ' i a) ∧ ∀ b, LkAt σ ρ' i b → OwAt σ ρ i b ∨ H b = none
def tSemI (K : KW) (w : M Wk) : TI := fun σ H R => ∃ F ρ ds l ρ', Sta K F H σ ρ ∧ w ρ = .ok (ds, l) ρ' ∧ ∀ F' H' N J, Ext K F H σ ρ F' H' σ ρ' → UnlOk H σ ρ ρ' l → Same N H' → (∀ b, N b ≠ none → ∀ i, ¬ OwAt σ ρ' i b) → ItOk K F' N J ds → R J H'
theorem piWeak {X : Cx} {tg e : Expr} {t t' : TI} (h : PI X tg e t) (w : ∀ σ H Q, t' σ H Q → t σ H Q) : PI X tg e t' :=
  ⟨fun pins s σ H Q I q => h.run pins s σ H Q I (w σ H Q q)⟩
/-- a list, a tuple or a text -/
def iSeq (K : KW) (tl : TE) : TI := fun σ H R => tl σ H fun x H1 => (∃ a xs, x = .ref a ∧ SqL K H1 a xs ∧ R (Itl K a) H1) ∨ (∃ a xs, x = .ref a ∧ SqT K H1 a xs ∧ R (Itt K a) H1) ∨ (∃ z, x = .str z ∧ R (Its z) H1)
theorem pi_seq {X : Cx} {tg l : Expr} {tl : TE} (hl : PE X l tl) : PI X tg l (iSeq X.kw tl) := by
  refine ⟨fun pins s σ H R I h => ?_⟩
  refine thn (hl.run pins s σ H _ I h) fun v s1 ⟨x, H1, I1, r1, q1⟩ => ?_
  rcases q1 with ⟨a, xs, e, hq, q⟩ | ⟨a, xs, e, hq, q⟩ | ⟨z, e, q⟩
  · have h2 : PE X l (fun _ H Q => Q x H) → True := fun _ => trivial
    subst e
    cases r1
    obtain ⟨its, rv, p, hz⟩ := I1.list hq
    refine wpAny_pyIter_list p.isList ?_
    refine ⟨s1.heap.objs.size, [s1.heap.objs.size], _, _, H1, rfl, I1.kept (t' := s1.toks) fun b o e => Heap.get?_push_of_some _ e, turn_list a _, ⟨_, Heap.get?_push_size _ rfl, rfl, rfl⟩, fun b hb => ?_, q⟩
    have e : b = s1.heap.objs.size := by simpa using hb
    subst e
    exact I1.fpOk (Nat.le_refl _) (I1.hok.fresh (Nat.le_refl _))
  · subst e
    cases r1
    obtain ⟨its, rv, p, hz⟩ := I1.tuple hq
    refine wpAny_pyIter_tuple (show s1.heap.IsTuple a its.toArray from p) ?_
    refine ⟨s1.heap.objs.size, [s1.heap.objs.size], _, _, H1, rfl, I1.kept (t' := s1.toks) fun b o e => Heap.get?_push_of_some _ e, turn_tuple a _, ⟨_, Heap.get?_push_size _ rfl, rfl, rfl⟩, fun b hb => ?_, q⟩
    have e : b = s1.heap.objs.size := by simpa using hb
    subst e
    exact I1.fpOk (Nat.le_refl _) (I1.hok.fresh (Nat.le_refl _))
  · subst e
    obtain ⟨t, rfl⟩ := r1
    exact strIter I1 q
where
  strIter {X : Cx} {tg : Expr} {pins : List (Addr × Obj)} {σ : SS} {H1 : Hp} {s1 : Shared} {z : Str} {t : Tok} {R : It → Hp → Prop} (I1 : Inv X pins σ H1 s1) (q : R (Its z) H1) :
      wpAny (model X.prog X.w) X.A (pyIter (.str z t)) (PIE X pins σ tg R) X.xe s1 := by
    cases ha : z.cps.all (· < 128)
    · exact wpAny_pyIter_wide ha (pi_one (tk := s1.toks) I1 _ (turn_str _ z t "str_iterator" (.inr rfl)) ⟨_, Heap.get?_push_size _ rfl, rfl, rfl⟩ q)
    · exact wpAny_pyIter_ascii ha (pi_one (tk := s1.toks) I1 _ (turn_str _ z t "str_ascii_iterator" (.inl rfl)) ⟨_, Heap.get?_push_size _ rfl, rfl, rfl⟩ q)
def seqItems : D → Option (List D)
  | .list ds => some ds
  | .tuple ds => some ds
  | .str x => some (x.cps.toList.map fun c => .str ⟨#[c]⟩)
  | _ => none
def wkOf (l : Option Nat) (d : D) : M Wk := opt ((seqItems d).map fun ds => (ds, l))
def dWk (f : M Rs) : M Wk := bd f fun r => match r with
  | .fz d => wkOf none d
  | .ow d => wkOf none d
  | .nm i => fun ρ => match ρ[i]? with
    | some (.fz d) => wkOf none d ρ
    | some (.ow d) => wkOf (some i) d (ρ.set i (.lk d))
    | some (.lk d) => wkOf none d ρ
    | _ => .bad
theorem itok_list {F0 N : Hp} {a : Addr} {vs : List V} {ds : List D} (h : ∀ F H, Same F0 F → Same F H → Same N H → SqL K H a vs) (r : RpA K F0 vs ds) : ItOk K F0 N (Itl K a) ds := fun i F H s1 s2 s3 => by
  have q := h F H s1 s2 s3
  refine ⟨fun d hd => ?_, fun hi => ⟨vs, q, by rw [r.length]; exact Nat.le_of_eq hi⟩⟩
  have hi : i < vs.length := by rw [r.length]; exact (List.getElem?_eq_some_iff.mp hd).1
  refine ⟨⟨vs, vs[i], q, List.getElem?_eq_getElem hi⟩, fun x H' y => ?_⟩
  obtain ⟨e, y⟩ := y
  subst e
  exact ⟨F, Grow.refl s2, (r.get (y vs q) hd).mono s1⟩
theorem itok_tup {F0 N : Hp} {a : Addr} {vs : List V} {ds : List D} (h : ∀ F H, Same F0 F → Same F H → Same N H → SqT K H a vs) (r : RpA K F0 vs ds) : ItOk K F0 N (Itt K a) ds := fun i F H s1 s2 s3 => by
  have q := h F H s1 s2 s3
  refine ⟨fun d hd => ?_, fun hi => ⟨vs, q, by rw [r.length]; exact Nat.le_of_eq hi⟩⟩
  have hi : i < vs.length := by rw [r.length]; exact (List.getElem?_eq_some_iff.mp hd).1
  refine ⟨⟨vs, vs[i], q, List.getElem?_eq_getElem hi⟩, fun x H' y => ?_⟩
  obtain ⟨e, y⟩ := y
  subst e
  exact ⟨F, Grow.refl s2, (r.get (y vs q) hd).mono s1⟩
theorem itok_str {F0 N : Hp} {z : Str} : ItOk K F0 N (Its z) (z.cps.toList.map fun c => .str ⟨#[c]⟩) := fun i F H s1 s2 s3 => by
  refine ⟨fun d hd => ?_, fun hi => by show z.cps.size ≤ i; simp at hi; omega⟩
  rw [List.getElem?_map] at hd
  cases e : z.cps.toList[i]? with
  | none => rw [e] at hd; cases hd
  | some c =>
    rw [e] at hd
    cases hd
    have hi : i < z.cps.size := by
      have := (List.getElem?_eq_some_iff.mp e).1
      simpa using this
    refine ⟨hi, fun x H' y => ?_⟩
    obtain ⟨e1, c', e2, e3⟩ := y
    subst e1; subst e3
    have : z.cps[i]? = some c := by rw [← Array.getElem?_toList]; exact e
    rw [this] at e2; cases e2
    exact ⟨F, Grow.refl s2, .str _⟩
theorem Ext.lock {F₀ H₀ : Hp} {σ₀ : SS} {ρ₀ : List Sl} {i : Nat} {d : D} (x : Ext K F₀ H₀ σ₀ ρ₀ F H σ ρ) (hρ : ρ[i]? = some (.ow d)) : Ext K F₀ H₀ σ₀ ρ₀ F H σ (ρ.set i (.lk d)) := by
  have hi : i < ρ.length := (List.getElem?_eq_some_iff.mp hρ).1
  have owB : ∀ j b, OwAt σ (ρ.set i (.lk d)) j b → OwAt σ ρ j b := fun j b ⟨e, d', q⟩ => by
    by_cases hj : i = j
    · subst hj; rw [List.getElem?_set_self hi] at q; cases q
    · rw [List.getElem?_set_ne hj] at q; exact ⟨e, d', q⟩
  have lkB : ∀ j b, LkAt σ (ρ.set i (.lk d)) j b → HdAt σ ρ j b := fun j b ⟨e, d', q⟩ => by
    by_cases hj : i = j
    · subst hj; exact .inl ⟨e, d, hρ⟩
    · rw [List.getElem?_set_ne hj] at q; exact .inr ⟨e, d', q⟩
  have hdB : ∀ j b, HdAt σ (ρ.set i (.lk d)) j b → HdAt σ ρ j b := fun j b q => q.elim (fun z => .inl (owB j b z)) (lkB j b)
  refine ⟨⟨x.st.le, by rw [List.length_set]; exact x.st.len, fun j s q => ?_, fun j k b h1 h2 => x.st.dj j k b (hdB j b h1) (hdB k b h2)⟩, x.fr, x.kp, x.nf, x.gr, fun j b q => x.ow j b (owB j b q), fun j b q => x.hd (lkB j b q)⟩
  by_cases hj : i = j
  · subst hj
    rw [List.getElem?_set_self hi] at q; cases q
    have z := x.st.sl i _ hρ
    exact z
  · rw [List.getElem?_set_ne hj] at q; exact x.st.sl j s q
theorem unlNone {H : Hp} : UnlOk H σ ρ ρ' none := fun _ e => nomatch e
theorem sem_wk {f : M Rs} : ∀ σ H R, tSemI K (dWk f) σ H R → iSeq K (tSem K f) σ H R := fun σ H R ⟨F, ρ, ds, l, ρ', s, e, k⟩ => by
  obtain ⟨r, ρ1, e1, e⟩ := bd_ok e
  refine ⟨F, ρ, r, ρ1, s, e1, fun F1 H1 v x1 q1 => ?_⟩
  -- a value for good
  have good : ∀ (F2 : Hp) (d : D), Ext K F H σ ρ F2 H1 σ ρ1 → Rp K F2 v d → wkOf none d ρ1 = .ok (ds, l) ρ' →
      (∃ a xs, v = .ref a ∧ SqL K H1 a xs ∧ R (Itl K a) H1) ∨ (∃ a xs, v = .ref a ∧ SqT K H1 a xs ∧ R (Itt K a) H1) ∨ (∃ z, v = .str z ∧ R (Its z) H1) := fun F2 d x2 rp e => by
    obtain ⟨e2, e3⟩ := opt_ok e
    subst e3
    have fin : ∀ J, l = none → ItOk K F2 F2 J ds → R J H1 := fun J hl it => k F2 H1 F2 J x2 (hl ▸ unlNone) x2.st.le (fun b nb i z => nb (x2.st.held (.inl z)).1) it
    cases d with
    | list ds' =>
      cases e2
      cases rp with
      | lst hq ra => exact .inl ⟨_, _, rfl, .inl (rd_mono x2.st.le hq), fin _ rfl (itok_list (fun F' H' g1 g2 g3 => .inl (rd_mono g3 hq)) ra)⟩
    | tuple ds' =>
      cases e2
      cases rp with
      | tup hq ra => exact .inr (.inl ⟨_, _, rfl, sqT_mono x2.st.le hq.sq, fin _ rfl (itok_tup (fun F' H' g1 g2 g3 => sqT_mono g3 hq.sq) ra)⟩)
    | str z =>
      cases e2
      cases rp
      exact .inr (.inr ⟨z, rfl, fin _ rfl itok_str⟩)
    | _ => cases e2
  -- a list that slot i holds, locked
  have held : ∀ (i : Nat) (a : Addr) (d : D) (ρ2 : List Sl), v = .ref a → F1 a = none → Ob K F1 H1 a d → Ext K F H σ ρ F1 H1 σ ρ2 → (∀ j, ¬ OwAt σ ρ2 j a) → UnlOk H σ ρ ρ2 l → wkOf l d ρ2 = .ok (ds, l) ρ' →
      (∃ a xs, v = .ref a ∧ SqL K H1 a xs ∧ R (Itl K a) H1) ∨ (∃ a xs, v = .ref a ∧ SqT K H1 a xs ∧ R (Itt K a) H1) ∨ (∃ z, v = .str z ∧ R (Its z) H1) := fun i a d ρ2 hv hf ho x2 hno hu e => by
    obtain ⟨e2, e3⟩ := opt_ok e
    subst e3
    cases d with
    | list ds' =>
      cases e2
      obtain ⟨vs, eo, ra⟩ := ho
      refine .inl ⟨a, vs, hv, .inl (.inl eo), k F1 H1 (upd F1 a (.lst vs)) _ x2 hu (same_upd_le x2.st.le eo) (fun b nb j z => ?_) (itok_list (fun F' H' g1 g2 g3 => .inl (.inl (g3 _ _ upd_same))) ra)⟩
      by_cases hb : b = a
      · subst hb; exact hno j z
      · rw [upd_ne hb] at nb; exact nb (x2.st.held (.inl z)).1
    | dict _ => cases e2
    | _ => exact ho.elim
  cases r with
  | fz d => exact good F1 d x1 q1 e
  | ow d =>
    obtain ⟨a, e2, h0, hf, ho, hn⟩ := q1
    obtain ⟨F2, x2, rp, _⟩ := x1.freezeNew h0 hf ho hn
    subst e2
    exact good F2 d x2 rp e
  | nm i =>
    have q1 : σ[i]? = some (some v) := q1
    simp only at e
    cases q : ρ1[i]? with
    | none => rw [q] at e; cases e
    | some sl =>
      rw [q] at e
      have z := x1.st.sl i sl q
      cases sl with
      | em => cases e
      | fz d =>
        obtain ⟨w, w1, w2⟩ := z
        rw [q1] at w1; cases w1
        exact good F1 d x1 w2 e
      | ow d =>
        obtain ⟨a, w1, w2, w3⟩ := z
        rw [q1] at w1; cases w1
        have hi : i < ρ1.length := (List.getElem?_eq_some_iff.mp q).1
        have hl : l = some i := by
          have := (opt_ok e).1
          cases y : seqItems d with
          | none => rw [y] at this; cases this
          | some _ => rw [y] at this; cases this; rfl
        subst hl
        refine held i a d (ρ1.set i (.lk d)) rfl w2 w3 (x1.lock q) (fun j z => ?_) (fun j ej => ?_) e
        · obtain ⟨y, d', y2⟩ := z
          by_cases hj : i = j
          · subst hj; rw [List.getElem?_set_self hi] at y2; cases y2
          · rw [List.getElem?_set_ne hj] at y2
            exact hj (x1.st.dj i j a (.inl ⟨q1, d, q⟩) (.inl ⟨y, d', y2⟩))
        · cases ej
          exact ⟨⟨a, q1, d, List.getElem?_set_self hi⟩, fun b z => x1.ow i b ⟨z.1, d, q⟩⟩
      | lk d =>
        obtain ⟨a, w1, w2, w3⟩ := z
        rw [q1] at w1; cases w1
        have hl : l = none := by
          have := (opt_ok e).1
          cases y : seqItems d with
          | none => rw [y] at this; cases this
          | some _ => rw [y] at this; cases this; rfl
        subst hl
        refine held i a d ρ1 rfl w2 w3 x1 (fun j z => ?_) unlNone e
        have ej := x1.st.dj i j a (.inr ⟨q1, d, q⟩) (.inl z)
        subst ej
        obtain ⟨_, d', y2⟩ := z
        rw [q] at y2; cases y2
theorem iw {X : Cx} {tg e : Expr} {f : M Rs} (h : PE X e (tSem X.kw f)) : PI X tg e (tSemI X.kw (dWk f)) := piWeak (pi_seq h) sem_wk
/-! ### for -/
def unlS (l : Option Nat) : SR → SR
  | .nx ρ => .nx (unl l ρ)
  | .rt r ρ => .rt r (unl l ρ)
  | .bad x => .bad x
  | _ => .bad none
def forGo (g : DG) (body : DS) : List D → DS
  | [], ρ => .nx ρ
  | d :: ds, ρ => match g d ρ with
    | none => .bad none
    | some ρ1 => match body ρ1 with
      | .nx ρ2 => forGo g body ds ρ2
      | .ct ρ2 => forGo g body ds ρ2
      | .bk ρ2 => .nx ρ2
      | .rt r ρ2 => .rt r ρ2
      | .bad x => .bad x
def dFor (w : M Wk) (g : DG) (body : DS) : DS := fun ρ => match w ρ with
  | .bad => .bad none
  | .ok (ds, l) ρ1 => unlS l (forGo g body ds ρ1)
theorem unl_len (l : Option Nat) (ρ : List Sl) : (unl l ρ).length = ρ.length := by
  unfold unl
  split
  · rfl
  · split
    · rw [List.length_set]
    · rfl
theorem unl_at {l : Option Nat} {j : Nat} : (unl l ρ)[j]? = ρ[j]? ∨ ∃ d, l = some j ∧ ρ[j]? = some (.lk d) ∧ (unl l ρ)[j]? = some (.ow d) := by
  unfold unl
  split
  · exact .inl rfl
  · rename_i i
    split
    · rename_i d e
      by_cases hj : i = j
      · subst hj
        exact .inr ⟨d, rfl, e, by rw [List.getElem?_set_self (List.getElem?_eq_some_iff.mp e).1]⟩
      · exact .inl (List.getElem?_set_ne hj)
    · exact .inl rfl
theorem unl_hd {l : Option Nat} {j : Nat} {b : Addr} (h : HdAt σ (unl l ρ) j b) : HdAt σ ρ j b := by
  rcases unl_at (ρ := ρ) (l := l) (j := j) with e | ⟨d, _, e1, e2⟩
  · unfold HdAt OwAt LkAt at h ⊢
    rw [e] at h; exact h
  · rcases h with ⟨h, _⟩ | ⟨h, _⟩ <;> exact .inr ⟨h, d, e1⟩
/-- behind a loop the lock is opened -/
theorem Ext.unlock {F₀ H₀ : Hp} {σ₀ : SS} {ρ₀ ρ₁ : List Sl} {F₁ H₁ : Hp} {l : Option Nat} (x0 : Ext K F₀ H₀ σ₀ ρ₀ F₁ H₁ σ₀ ρ₁) (hu : UnlOk H₀ σ₀ ρ₀ ρ₁ l) (x : Ext K F₁ H₁ σ₀ ρ₁ F H σ ρ) :
    Ext K F₀ H₀ σ₀ ρ₀ F H σ (unl l ρ) := by
  have y := x0.trans x
  have owB : ∀ j b, OwAt σ (unl l ρ) j b → OwAt σ ρ j b ∨ (l = some j ∧ LkAt σ ρ j b) := fun j b ⟨e, d, q⟩ => by
    rcases unl_at (ρ := ρ) (l := l) (j := j) with z | ⟨d', z0, z1, z2⟩
    · rw [z] at q; exact .inl ⟨e, d, q⟩
    · exact .inr ⟨z0, e, d', z1⟩
  have lkB : ∀ j b, LkAt σ (unl l ρ) j b → LkAt σ ρ j b := fun j b ⟨e, d, q⟩ => by
    rcases unl_at (ρ := ρ) (l := l) (j := j) with z | ⟨d', z0, z1, z2⟩
    · rw [z] at q; exact ⟨e, d, q⟩
    · rw [z2] at q; cases q
  refine ⟨⟨y.st.le, by rw [unl_len]; exact y.st.len, fun j s q => ?_, fun j k b h1 h2 => y.st.dj j k b (unl_hd h1) (unl_hd h2)⟩, y.fr, y.kp, y.nf, y.gr, fun j b q => ?_, fun j b q => y.lk j b (lkB j b q)⟩
  · rcases unl_at (ρ := ρ) (l := l) (j := j) with z | ⟨d', z0, z1, z2⟩
    · rw [z] at q; exact y.st.sl j s q
    · rw [z2] at q; cases q
      have w := y.st.sl j _ z1
      exact w
  · rcases owB j b q with z | ⟨hl, z⟩
    · exact y.ow j b z
    · -- it was locked through the loop
      obtain ⟨⟨a, ha⟩, hu'⟩ := hu j hl
      rcases x.lk j b z with w | w
      · have : LkAt σ₀ ρ₁ j b := by
          rcases w with ⟨_, d, w⟩ | w
          · obtain ⟨_, d', w'⟩ := ha
            rw [w] at w'; cases w'
          · exact w
        exact hu' b this
      · exact .inr (x0.back w)
theorem forGo_drop {g : DG} {body : DS} {ds : List D} {i : Nat} {d : D} (h : ds[i]? = some d) : forGo g body (ds.drop i) = forGo g body (d :: ds.drop (i + 1)) := by
  have hi := (List.getElem?_eq_some_iff.mp h).1
  rw [List.drop_eq_getElem_cons hi]
  have : ds[i] = d := (List.getElem?_eq_some_iff.mp h).2
  rw [this]
theorem sem_for {P : Nat → Prop} {w : M Wk} {g : DG} {body : DS} : ∀ D σ H, tSemS K Wx P (dFor w g body) D σ H → tFor (tSemI K w) (tSemG K P g) (tSemS K Wx P body) D σ H := fun D σ H ⟨F, ρ, s, h⟩ => by
  unfold dFor at h
  cases e : w ρ with
  | bad => rw [e] at h; exact h.elim
  | ok a ρ1 =>
    obtain ⟨ds, l⟩ := a
    rw [e] at h
    refine ⟨F, ρ, ds, l, ρ1, s, e, fun F1 H1 N J x1 hu sN hN it => ?_⟩
    simp only at h
    generalize hres : forGo g body ds ρ1 = res at h
    -- what the end asks
    have fin_nx : ∀ F' H' σ' ρ', res = .nx ρ' → Ext K F1 H1 σ ρ1 F' H' σ' ρ' → Prot P σ σ' → D.nx σ' H' := fun F' H' σ' ρ' er x p => by
      subst er
      exact h F' H' σ' (x1.unlock hu x) p
    have fin_rt : ∀ F' H' σ' ρ' r v, res = .rt r ρ' → Ext K F1 H1 σ ρ1 F' H' σ' ρ' → Prot P σ σ' → RsR K H F' H' σ' ρ' v r → D.rt v H' := fun F' H' σ' ρ' r v er x p q => by
      subst er
      refine h F' H' σ' v (x1.unlock hu x) p ?_
      cases r with
      | fz d => exact q
      | nm i => exact q
      | ow d =>
        obtain ⟨a, q1, q2, q3, q4, q5⟩ := q
        exact ⟨a, q1, q2, q3, q4, fun i z => q5 i (unl_hd z)⟩
    have fin_no : res = .bad none → False := fun er => by subst er; exact h
    have fin_ex : ∀ F' H' σ' ρ' xx cls d, res = .bad (some (xx, ρ')) → Ext K F1 H1 σ ρ1 F' H' σ' ρ' → Prot P σ σ' → ExR K F' H' xx cls d → Wx cls d σ' H' := fun F' H' σ' ρ' xx cls d er x p q => by
      subst er
      exact h F' H' σ' cls d (x1.trans x) p q
    refine ⟨fun i m σ' H' => m = ds.length - i ∧ i ≤ ds.length ∧ ∃ F' ρ', Ext K F1 H1 σ ρ1 F' H' σ' ρ' ∧ Prot P σ σ' ∧ forGo g body (ds.drop i) ρ' = res, ⟨ds.length, by simp, Nat.zero_le _, F1, ρ1, Ext.refl x1.st, Prot.refl, by simpa using hres⟩, ?_⟩
    rintro i m σ' H' ⟨rfl, hi, F', ρ', x, p, er⟩
    have sN' : Same N H' := fun b o eb => x.kp b o (sN b o eb) (hN b (by rw [eb]; exact fun z => nomatch z))
    obtain ⟨itg, its⟩ := it i F' H' x.fr x.st.le sN'
    by_cases hlt : i < ds.length
    · have hd : ds[i]? = some ds[i] := List.getElem?_eq_getElem hlt
      obtain ⟨go, yl⟩ := itg _ hd
      rw [forGo_drop hd] at er
      refine .inr ⟨go, fun σ2 H2 => ∃ F2 ρ2, Ext K F1 H1 σ ρ1 F2 H2 σ2 ρ2 ∧ Prot P σ σ2 ∧ forGo g body (ds.drop (i + 1)) ρ2 = res, fun σ2 H2 q => ⟨ds.length - (i + 1), by omega, rfl, hlt, q⟩, fun v H2 y => ?_⟩
      obtain ⟨F2, gr, rp⟩ := yl v H2 y
      have x2 := x.trans (x.st.grow gr)
      unfold forGo at er
      cases eg : g ds[i] ρ' with
      | none => rw [eg] at er; exact (fin_no er.symm).elim
      | some ρ2 =>
        rw [eg] at er
        refine ⟨F2, ρ', ds[i], ρ2, x2.st, rp, eg, fun σ3 x3 p3 => ⟨F2, ρ2, x3.st, ?_⟩⟩
        have x4 := x2.trans x3
        have p4 := p.trans p3
        simp only at er
        cases eb : body ρ2 with
        | nx ρ5 => simp only [eb] at er; exact fun F5 H5 σ5 x5 p5 => ⟨F5, ρ5, x4.trans x5, p4.trans p5, er⟩
        | ct ρ5 => simp only [eb] at er; exact fun F5 H5 σ5 x5 p5 => ⟨F5, ρ5, x4.trans x5, p4.trans p5, er⟩
        | bk ρ5 => simp only [eb] at er; exact fun F5 H5 σ5 x5 p5 => fin_nx F5 H5 σ5 ρ5 er.symm (x4.trans x5) (p4.trans p5)
        | rt r ρ5 => simp only [eb] at er; exact fun F5 H5 σ5 v x5 p5 q => fin_rt F5 H5 σ5 ρ5 r v er.symm (x4.trans x5) (p4.trans p5) (q.base fun a z => x1.back (x4.back z))
        | bad xo =>
          simp only [eb] at er
          cases xo with
          | none => exact (fin_no er.symm).elim
          | some xx => exact fun F5 H5 σ5 cls d x5 p5 q => fin_ex F5 H5 σ5 xx.2 xx.1 cls d er.symm (x4.trans x5) (p4.trans p5) q
    · have ei : i = ds.length := by omega
      subst ei
      rw [List.drop_length] at er
      exact .inl ⟨its rfl, fin_nx F' H' σ' ρ' er.symm x p⟩
/-! ### while -/
def whileGo (c : M Bool) (body : DS) : Nat → DS
  | 0 => fun _ => .bad none
  | n + 1 => fun ρ => match c ρ with
    | .bad => .bad none
    | .ok false ρ1 => .nx ρ1
    | .ok true ρ1 => match body ρ1 with
      | .nx ρ2 => whileGo c body n ρ2
      | .ct ρ2 => whileGo c body n ρ2
      | .bk ρ2 => .nx ρ2
      | .rt r ρ2 => .rt r ρ2
      | .bad x => .bad x
def dWhile (n : Nat) (c : M Bool) (body : DS) : DS := whileGo c body n
theorem sem_while {P : Nat → Prop} {n : Nat} {c : M Bool} {body : DS} : ∀ D σ H, tSemS K Wx P (dWhile n c body) D σ H → tWhile (tSemT K c) (tSemS K Wx P body) D σ H := fun D σ H ⟨F, ρ, s, h⟩ => by
  unfold dWhile at h
  generalize hres : whileGo c body n ρ = res at h
  refine ⟨fun m σ' H' => ∃ F' ρ', Ext K F H σ ρ F' H' σ' ρ' ∧ Prot P σ σ' ∧ whileGo c body m ρ' = res, ⟨n, F, ρ, Ext.refl s, Prot.refl, hres⟩, ?_⟩
  rintro m σ' H' ⟨F', ρ', x, p, er⟩
  cases m with
  | zero => unfold whileGo at er; subst er; exact h.elim
  | succ m =>
    unfold whileGo at er
    cases ec : c ρ' with
    | bad => rw [ec] at er; subst er; exact h.elim
    | ok b ρ1 =>
      rw [ec] at er
      refine ⟨F', ρ', b, ρ1, x.st, ec, fun F2 H2 x2 => ?_⟩
      cases b with
      | false => subst er; exact iteF (h F2 H2 σ' (x.trans x2) p)
      | true =>
        refine iteT ⟨fun σ3 H3 => ∃ F3 ρ3, Ext K F H σ ρ F3 H3 σ3 ρ3 ∧ Prot P σ σ3 ∧ whileGo c body m ρ3 = res, fun σ3 H3 q => ⟨m, Nat.lt_succ_self m, q⟩, F2, ρ1, x2.st, ?_⟩
        have x4 := x.trans x2
        simp only at er
        cases eb : body ρ1 with
        | nx ρ5 => simp only [eb] at er; exact fun F5 H5 σ5 x5 p5 => ⟨F5, ρ5, x4.trans x5, p.trans p5, er⟩
        | ct ρ5 => simp only [eb] at er; exact fun F5 H5 σ5 x5 p5 => ⟨F5, ρ5, x4.trans x5, p.trans p5, er⟩
        | bk ρ5 => simp only [eb] at er; subst er; exact fun F5 H5 σ5 x5 p5 => h F5 H5 σ5 (x4.trans x5) (p.trans p5)
        | rt r ρ5 => simp only [eb] at er; subst er; exact fun F5 H5 σ5 v x5 p5 q => h F5 H5 σ5 v (x4.trans x5) (p.trans p5) (q.base fun a z => x4.back z)
        | bad xo =>
          simp only [eb] at er
          subst er
          cases xo with
          | none => exact h.elim
          | some xx => exact fun F5 H5 σ5 cls d x5 p5 q => h F5 H5 σ5 cls d (x4.trans x5) (p.trans p5) q
section
variable {X : Cx} {P : Nat → Prop} {pos : Pos} {f : DS} {w : M Wk} {g : DG} {tg iter : Expr} {body : List Stmt}
theorem sfor (hp : PassesOwn (model X.prog X.w) X.A X.env X.xe) (hc : X.calm = true) (hi : PI X tg iter (tSemI X.kw w)) (hg : PG X tg (tSemG X.kw P g)) (hb : PSs X body (tSemS X.kw Wx P f))
    (hs : ∀ x, foldedSetIterable iter X.env x = pure x := by intro _; rfl) : PS X (.For tg iter body [] pos) (tSemS X.kw Wx P (dFor w g f)) := psWeak (ps_for hp hc hi hg hb hs) sem_for
theorem swhile {n : Nat} {c : Expr} {tc : M Bool} (hp : PassesOwn (model X.prog X.w) X.A X.env X.xe) (hc : PT X c (tSemT X.kw tc)) (hb : PSs X body (tSemS X.kw Wx P f)) : PS X (.While c body [] pos) (tSemS X.kw Wx P (dWhile n tc f)) := psWeak (ps_while hp hc hb) sem_while
end
/-! ### ranges -/
def dRng1 (f : M (List Rs)) : M Wk := bd f fun rs => bd (lookA rs) fun ds => opt (match ds with
  | [.int j] => if -(2 ^ 62) ≤ j ∧ j < 2 ^ 62 then some ((List.range j.toNat).map fun k => .int (k : Nat), none) else none
  | _ => none)
def dRng2 (f : M (List Rs)) : M Wk := bd f fun rs => bd (lookA rs) fun ds => opt (match ds with
  | [.int i, .int j] => if -(2 ^ 62) ≤ i ∧ i < 2 ^ 62 ∧ -(2 ^ 62) ≤ j ∧ j < 2 ^ 62 then some ((List.range (j - i).toNat).map fun k => .int (i + (k : Nat)), none) else none
  | _ => none)
theorem itok_range {F0 N : Hp} {lo : Int} {n : Nat} : ItOk K F0 N (Itr lo n) ((List.range n).map fun k => .int (lo + (k : Nat))) := fun i F H s1 s2 s3 => by
  refine ⟨fun d hd => ?_, fun hi => by show n ≤ i; simp at hi; omega⟩
  rw [List.getElem?_map] at hd
  cases e : (List.range n)[i]? with
  | none => rw [e] at hd; cases hd
  | some c =>
    rw [e] at hd
    cases hd
    obtain ⟨h1, h2⟩ := List.getElem?_eq_some_iff.mp e
    have hi : i < n := by simpa using h1
    have : c = i := by simpa using h2.symm
    subst this
    refine ⟨hi, fun x H' y => ?_⟩
    obtain ⟨e1, e2⟩ := y
    subst e1; subst e2
    exact ⟨F, Grow.refl s2, .int _⟩
theorem VwA.one {v : List V} {d : D} (h : VwA K F H v [d]) : ∃ x, v = [x] ∧ Vw K F H x d := by
  match v, h with
  | [x], h => exact ⟨x, rfl, h.1⟩
theorem VwA.two {v : List V} {d e : D} (h : VwA K F H v [d, e]) : ∃ x y, v = [x, y] ∧ Vw K F H x d ∧ Vw K F H y e := by
  match v, h with
  | [x, y], h => exact ⟨x, y, rfl, h.1, h.2.1⟩
theorem sem_rng1 {f : M (List Rs)} : ∀ σ H R, tSemI K (dRng1 f) σ H R → iRng1 (tSemA K f) σ H R := fun σ H R ⟨F, ρ, ds, l, ρ', s, e, k⟩ => by
  obtain ⟨rs, ρ1, e1, e⟩ := bd_ok e
  obtain ⟨da, ρ2, e2, e⟩ := bd_ok e
  obtain ⟨e3, e4⟩ := opt_ok e
  subst e4
  refine ⟨F, ρ, rs, ρ1, s, e1, fun F1 H1 vs x1 q1 => ?_⟩
  obtain ⟨z, w⟩ := lookA_ok x1.st q1 e2
  subst z
  split at e3
  · rename_i j
    split at e3
    · rename_i hj
      cases e3
      obtain ⟨x, rfl, wx⟩ := w.one
      rw [wx.int]
      refine ⟨j, rfl, hj.1, hj.2, k F1 H1 F1 _ x1 unlNone x1.st.le (fun b nb i z => nb (x1.st.held (.inl z)).1) ?_⟩
      have := itok_range (K := K) (F0 := F1) (N := F1) (lo := 0) (n := j.toNat)
      simpa using this
    · cases e3
  · cases e3
theorem sem_rng2 {f : M (List Rs)} : ∀ σ H R, tSemI K (dRng2 f) σ H R → iRng2 (tSemA K f) σ H R := fun σ H R ⟨F, ρ, ds, l, ρ', s, e, k⟩ => by
  obtain ⟨rs, ρ1, e1, e⟩ := bd_ok e
  obtain ⟨da, ρ2, e2, e⟩ := bd_ok e
  obtain ⟨e3, e4⟩ := opt_ok e
  subst e4
  refine ⟨F, ρ, rs, ρ1, s, e1, fun F1 H1 vs x1 q1 => ?_⟩
  obtain ⟨z, w⟩ := lookA_ok x1.st q1 e2
  subst z
  split at e3
  · rename_i i j
    split at e3
    · rename_i hj
      cases e3
      obtain ⟨x, y, rfl, wx, wy⟩ := w.two
      rw [wx.int, wy.int]
      exact ⟨i, j, rfl, hj, k F1 H1 F1 _ x1 unlNone x1.st.le (fun b nb i z => nb (x1.st.held (.inl z)).1) itok_range⟩
    · cases e3
  · cases e3
section
variable {X : Cx} {tg : Expr}
theorem ir1 {a : Expr} {fa : M (List Rs)} {p pos : Pos} (hg : Gl X "range") (hm : X.mg "range" = none) (ha : PA X [a] (tSemA X.kw fa)) (hs : starEach [a] X.env = [(false, eval a X.env)] := by rfl) : PI X tg (.Call (.Name "range" p) [a] [] pos) (tSemI X.kw (dRng1 fa)) :=
  piWeak (pi_range1 hg hm ha hs) sem_rng1
theorem ir2 {a b : Expr} {fa : M (List Rs)} {p pos : Pos} (hg : Gl X "range") (hm : X.mg "range" = none) (ha : PA X [a, b] (tSemA X.kw fa)) (hs : starEach [a, b] X.env = [(false, eval a X.env), (false, eval b X.env)] := by rfl) (hs2 : starEach [b] X.env = [(false, eval b X.env)] := by rfl) :
    PI X tg (.Call (.Name "range" p) [a, b] [] pos) (tSemI X.kw (dRng2 fa)) := piWeak (pi_range2 hg hm ha hs hs2) sem_rng2
end
end
end DL
namespace DL
open PySem PySem.Spec PyProof.Rows L2
variable {Wx : WX}
section
variable {K : KW} {F H F' H' : Hp} {σ σ' : SS} {ρ ρ' : List Sl}
/-! ### list comprehensions -/
def wipeR (own : List Nat) (ρ : List Sl) : List Sl := match own with
  | [] => ρ
  | i :: is => (wipeR is ρ).set i .em
/-- the slots of own as they were in ρ -/
def restore (own : List Nat) (ρ ρ' : List Sl) : List Sl := match own with
  | [] => ρ'
  | i :: is => match ρ[i]? with
    | some s => (restore is ρ ρ').set i s
    | none => restore is ρ ρ'
theorem wipeR_len (ρ : List Sl) : ∀ own, (wipeR own ρ).length = ρ.length
  | [] => rfl
  | i :: is => by unfold wipeR; rw [List.length_set, wipeR_len ρ is]
theorem wipeR_in {i : Nat} (hi : i < ρ.length) : ∀ {own : List Nat}, i ∈ own → (wipeR own ρ)[i]? = some .em
  | [], h => by cases h
  | j :: js, h => by
    unfold wipeR
    by_cases hj : j = i
    · subst hj; rw [List.getElem?_set_self (by rw [wipeR_len]; exact hi)]
    · rw [List.getElem?_set_ne hj]
      exact wipeR_in hi ((List.mem_cons.mp h).resolve_left fun z => hj z.symm)
theorem wipeR_out {i : Nat} : ∀ {own : List Nat}, i ∉ own → (wipeR own ρ)[i]? = ρ[i]?
  | [], h => rfl
  | j :: js, h => by
    unfold wipeR
    have hj : j ≠ i := fun z => h (z ▸ List.mem_cons_self)
    rw [List.getElem?_set_ne hj]
    exact wipeR_out fun z => h (List.mem_cons_of_mem _ z)
theorem restore_len (hl : ρ'.length = ρ.length) : ∀ own, (restore own ρ ρ').length = ρ.length
  | [] => hl
  | i :: is => by
    unfold restore
    split
    · rw [List.length_set, restore_len hl is]
    · exact restore_len hl is
theorem restore_in {i : Nat} (hl : ρ'.length = ρ.length) (hi : i < ρ.length) : ∀ {own : List Nat}, i ∈ own → (restore own ρ ρ')[i]? = ρ[i]?
  | [], h => by cases h
  | j :: js, h => by
    unfold restore
    by_cases hj : j = i
    · subst hj
      rw [List.getElem?_eq_getElem hi]
      simp only
      rw [List.getElem?_set_self (by rw [restore_len hl]; exact hi)]
    · have := restore_in hl hi (own := js) ((List.mem_cons.mp h).resolve_left fun z => hj z.symm)
      split
      · rw [List.getElem?_set_ne hj]; exact this
      · exact this
theorem restore_out {i : Nat} : ∀ {own : List Nat}, i ∉ own → (restore own ρ ρ')[i]? = ρ'[i]?
  | [], h => rfl
  | j :: js, h => by
    unfold restore
    have hj : j ≠ i := fun z => h (z ▸ List.mem_cons_self)
    have := restore_out (own := js) fun z => h (List.mem_cons_of_mem _ z)
    split
    · rw [List.getElem?_set_ne hj]; exact this
    · exact this
theorem wipe_in {i : Nat} (hi : i < σ.length) : ∀ {own : List Nat}, i ∈ own → (wipe σ own)[i]? = some none
  | [], h => by cases h
  | j :: js, h => by
    unfold wipe
    by_cases hj : j = i
    · subst hj; rw [List.getElem?_set_self (by rw [wipe_length]; exact hi)]
    · rw [List.getElem?_set_ne hj]
      exact wipe_in hi ((List.mem_cons.mp h).resolve_left fun z => hj z.symm)
theorem wipe_out {i : Nat} : ∀ {own : List Nat}, i ∉ own → (wipe σ own)[i]? = σ[i]?
  | [], h => rfl
  | j :: js, h => by
    unfold wipe
    have hj : j ≠ i := fun z => h (z ▸ List.mem_cons_self)
    rw [List.getElem?_set_ne hj]
    exact wipe_out fun z => h (List.mem_cons_of_mem _ z)
theorem wipe_eq {own : List Nat} (hl : σ'.length = σ.length) (h : ∀ i, i ∉ own → σ'[i]? = σ[i]?) : wipe σ' own = wipe σ own := by
  refine List.ext_getElem? fun i => ?_
  by_cases hi : i ∈ own
  · by_cases hl' : i < σ.length
    · rw [wipe_in hl' hi, wipe_in (by omega) hi]
    · rw [List.getElem?_eq_none (by rw [wipe_length]; omega), List.getElem?_eq_none (by rw [wipe_length]; omega)]
  · rw [wipe_out hi, wipe_out hi, h i hi]
theorem wipe_wipe {own : List Nat} : wipe (wipe σ own) own = wipe σ own := wipe_eq (wipe_length _ _) fun i h => wipe_out h
section
variable {own : List Nat}
theorem wipe_hd (hl : σ.length = ρ.length) {σ1 : SS} (h1 : ∀ i, i ∉ own → σ1[i]? = σ[i]?) {i : Nat} {b : Addr} : HdAt σ1 (wipeR own ρ) i b → i ∉ own ∧ HdAt σ ρ i b := fun h => by
  have hno : i ∉ own := fun hi => by
    by_cases hi' : i < ρ.length
    · rcases h with ⟨_, d, q⟩ | ⟨_, d, q⟩ <;> rw [wipeR_in hi' hi] at q <;> cases q
    · rcases h with ⟨_, d, q⟩ | ⟨_, d, q⟩ <;> rw [List.getElem?_eq_none (by rw [wipeR_len]; omega)] at q <;> cases q
  refine ⟨hno, ?_⟩
  rcases h with ⟨e, d, q⟩ | ⟨e, d, q⟩
  · rw [wipeR_out hno] at q; rw [h1 i hno] at e; exact .inl ⟨e, d, q⟩
  · rw [wipeR_out hno] at q; rw [h1 i hno] at e; exact .inr ⟨e, d, q⟩
theorem wipe_ow (hl : σ.length = ρ.length) {σ1 : SS} (h1 : ∀ i, i ∉ own → σ1[i]? = σ[i]?) {i : Nat} {b : Addr} : OwAt σ1 (wipeR own ρ) i b → i ∉ own ∧ OwAt σ ρ i b := fun h => by
  obtain ⟨hno, _⟩ := wipe_hd hl h1 (.inl h)
  obtain ⟨e, d, q⟩ := h
  rw [wipeR_out hno] at q; rw [h1 i hno] at e
  exact ⟨hno, e, d, q⟩
theorem wipe_lk (hl : σ.length = ρ.length) {σ1 : SS} (h1 : ∀ i, i ∉ own → σ1[i]? = σ[i]?) {i : Nat} {b : Addr} : LkAt σ1 (wipeR own ρ) i b → i ∉ own ∧ LkAt σ ρ i b := fun h => by
  obtain ⟨hno, _⟩ := wipe_hd hl h1 (.inr h)
  obtain ⟨e, d, q⟩ := h
  rw [wipeR_out hno] at q; rw [h1 i hno] at e
  exact ⟨hno, e, d, q⟩
/-- the block's own names forgotten, the values of the others as they stand -/
theorem Sta.wiped (s : Sta K F H σ ρ) {σ1 : SS} (l1 : σ1.length = σ.length) (h1 : ∀ i, i ∉ own → σ1[i]? = σ[i]?) : Sta K F H σ1 (wipeR own ρ) := by
  refine ⟨s.le, by rw [wipeR_len, l1]; exact s.len, fun i sl q => ?_, fun i j b h2 h3 => s.dj i j b (wipe_hd s.len h1 h2).2 (wipe_hd s.len h1 h3).2⟩
  by_cases hi : i ∈ own
  · have hlt : i < ρ.length := by
      have := (List.getElem?_eq_some_iff.mp q).1
      rw [wipeR_len] at this; exact this
    rw [wipeR_in hlt hi] at q; cases q; trivial
  · rw [wipeR_out hi] at q
    rw [h1 i hi]; exact s.sl i sl q
theorem Ext.wiped {F₀ H₀ : Hp} {σ₀ : SS} {ρ₀ : List Sl} (x : Ext K F₀ H₀ σ₀ ρ₀ F H σ ρ) {σ1 : SS} (l1 : σ1.length = σ.length) (h1 : ∀ i, i ∉ own → σ1[i]? = σ[i]?) : Ext K F₀ H₀ σ₀ ρ₀ F H σ1 (wipeR own ρ) :=
  ⟨x.st.wiped l1 h1, x.fr, x.kp, x.nf, x.gr, fun i b q => x.ow i b (wipe_ow x.st.len h1 q).2, fun i b q => x.lk i b (wipe_lk x.st.len h1 q).2⟩
/-- behind the block: the names are what they were -/
theorem Ext.restored (s : Sta K F H σ ρ) {σ1 : SS} (l1 : σ1.length = σ.length) (h1 : ∀ i, i ∉ own → σ1[i]? = σ[i]?) (x : Ext K F H σ1 (wipeR own ρ) F' H' σ1 ρ') :
    Ext K F H σ ρ F' H' σ (restore own ρ ρ') ∧ ∀ i b, HdAt σ (restore own ρ ρ') i b → (i ∈ own ∧ HdAt σ ρ i b) ∨ (i ∉ own ∧ HdAt σ1 ρ' i b) := by
  have hl : ρ'.length = ρ.length := by
    have a := x.st.len
    have b := s.len
    omega
  -- a slot of the block's own names
  have inn : ∀ i sl, i ∈ own → (restore own ρ ρ')[i]? = some sl → ρ[i]? = some sl := fun i sl hi e => by
    have hlt : i < ρ.length := by
      have := (List.getElem?_eq_some_iff.mp e).1
      rw [restore_len hl] at this; exact this
    rw [restore_in hl hlt hi] at e; exact e
  have owR : ∀ i b, OwAt σ (restore own ρ ρ') i b → (i ∈ own ∧ OwAt σ ρ i b) ∨ (i ∉ own ∧ OwAt σ1 ρ' i b) := fun i b ⟨e, d, q⟩ => by
    by_cases hi : i ∈ own
    · exact .inl ⟨hi, e, d, inn i _ hi q⟩
    · rw [restore_out hi] at q
      exact .inr ⟨hi, by rw [h1 i hi]; exact e, d, q⟩
  have lkR : ∀ i b, LkAt σ (restore own ρ ρ') i b → (i ∈ own ∧ LkAt σ ρ i b) ∨ (i ∉ own ∧ LkAt σ1 ρ' i b) := fun i b ⟨e, d, q⟩ => by
    by_cases hi : i ∈ own
    · exact .inl ⟨hi, e, d, inn i _ hi q⟩
    · rw [restore_out hi] at q
      exact .inr ⟨hi, by rw [h1 i hi]; exact e, d, q⟩
  have hdR : ∀ i b, HdAt σ (restore own ρ ρ') i b → (i ∈ own ∧ HdAt σ ρ i b) ∨ (i ∉ own ∧ HdAt σ1 ρ' i b) := fun i b q => by
    rcases q with q | q
    · exact (owR i b q).imp (fun z => ⟨z.1, .inl z.2⟩) fun z => ⟨z.1, .inl z.2⟩
    · exact (lkR i b q).imp (fun z => ⟨z.1, .inr z.2⟩) fun z => ⟨z.1, .inr z.2⟩
  -- what a hidden name holds is apart from what the block holds
  have apart : ∀ i b, i ∈ own → HdAt σ ρ i b → ∀ j, ¬ HdAt σ1 (wipeR own ρ) j b := fun i b hi q j z => by
    obtain ⟨hj, z⟩ := wipe_hd s.len h1 z
    have e := s.dj i j b q z
    subst e
    exact hj hi
  refine ⟨⟨⟨x.st.le, by rw [restore_len hl]; exact s.len, fun i sl q => ?_, fun i j b q1 q2 => ?_⟩, x.fr, fun b o e n => x.kp b o e fun i z => n i (wipe_ow s.len h1 z).2, fun b e n q => x.nf b e (fun i z => n i (wipe_hd s.len h1 z).2) q, x.gr, fun i b q => ?_, fun i b q => ?_⟩, hdR⟩
  · by_cases hi : i ∈ own
    · have q' := inn i sl hi q
      have z := s.sl i sl q'
      cases sl with
      | em => trivial
      | fz d => obtain ⟨v, e, r⟩ := z; exact ⟨v, e, r.mono x.fr⟩
      | ow d =>
        obtain ⟨a, e, nf, o⟩ := z
        obtain ⟨ob, eo⟩ := o.some
        have ap := apart i a hi (.inl ⟨e, d, q'⟩)
        exact ⟨a, e, x.nf a o.ne ap nf, o.mono x.fr ((x.kp a ob eo fun j w => ap j (.inl w)).trans eo.symm)⟩
      | lk d =>
        obtain ⟨a, e, nf, o⟩ := z
        obtain ⟨ob, eo⟩ := o.some
        have ap := apart i a hi (.inr ⟨e, d, q'⟩)
        exact ⟨a, e, x.nf a o.ne ap nf, o.mono x.fr ((x.kp a ob eo fun j w => ap j (.inl w)).trans eo.symm)⟩
    · rw [restore_out hi] at q
      rw [← h1 i hi]; exact x.st.sl i sl q
  · have cross : ∀ i j b, i ∈ own → HdAt σ ρ i b → HdAt σ1 ρ' j b → False := fun i j b hi w1 w2 => by
      rcases x.hd w2 with y | y
      · exact apart i b hi w1 j y
      · obtain ⟨_, d, o⟩ := s.held w1
        exact o.ne y
    rcases hdR i b q1 with ⟨hi, w1⟩ | ⟨hi, w1⟩
    · rcases hdR j b q2 with ⟨hj, w2⟩ | ⟨hj, w2⟩
      · exact s.dj i j b w1 w2
      · exact (cross i j b hi w1 w2).elim
    · rcases hdR j b q2 with ⟨hj, w2⟩ | ⟨hj, w2⟩
      · exact (cross j i b hj w2 w1).elim
      · exact x.st.dj i j b w1 w2
  · rcases owR i b q with ⟨_, z⟩ | ⟨_, z⟩
    · exact .inl z
    · rcases x.ow i b z with y | y
      · exact .inl (wipe_ow s.len h1 y).2
      · exact .inr y
  · rcases lkR i b q with ⟨_, z⟩ | ⟨_, z⟩
    · exact .inl (.inr z)
    · rcases x.lk i b z with y | y
      · exact .inl (wipe_hd s.len h1 y).2
      · exact .inr y
end
/-- a new object of ours that no slot holds is changed -/
theorem Ext.updFree {F₀ H₀ : Hp} {σ₀ : SS} {ρ₀ : List Sl} {p : Addr} {o : HO} (x : Ext K F₀ H₀ σ₀ ρ₀ F H σ ρ) (h0 : H₀ p = none) (hf : F p = none) (hn : ∀ i, ¬ HdAt σ ρ i p) : Ext K F₀ H₀ σ₀ ρ₀ F (upd H p o) σ ρ := by
  refine ⟨⟨fun b u e => ?_, x.st.len, fun i s q => ?_, x.st.dj⟩, x.fr, fun b u e n => ?_, x.nf, fun b e => ?_, x.ow, x.lk⟩
  · have hb : b ≠ p := fun z => by subst z; rw [hf] at e; cases e
    rw [upd_ne hb]; exact x.st.le b u e
  · have z := x.st.sl i s q
    cases s with
    | em => trivial
    | fz d => exact z
    | ow d =>
      obtain ⟨a, e, nf, ob⟩ := z
      have ha : a ≠ p := fun z => by subst z; exact hn i (.inl ⟨e, d, q⟩)
      exact ⟨a, e, nf, ob.mono (Same.refl _) (upd_ne ha)⟩
    | lk d =>
      obtain ⟨a, e, nf, ob⟩ := z
      have ha : a ≠ p := fun z => by subst z; exact hn i (.inr ⟨e, d, q⟩)
      exact ⟨a, e, nf, ob.mono (Same.refl _) (upd_ne ha)⟩
  · have hb : b ≠ p := fun z => by subst z; rw [h0] at e; cases e
    rw [upd_ne hb]; exact x.kp b u e n
  · by_cases hb : b = p
    · subst hb; rw [upd_same]; exact fun z => nomatch z
    · rw [upd_ne hb]; exact x.gr b e
def lcGo (own : List Nat) (g : DG) (tt : M Bool) (te : M Rs) : List D → List D → M (List D)
  | [], acc => pr acc
  | d :: ds, acc => fun ρ => match g d ρ with
    | none => .bad
    | some ρ1 => match tt ρ1 with
      | .bad => .bad
      | .ok false ρ2 => lcGo own g tt te ds acc (wipeR own ρ2)
      | .ok true ρ2 => match bd te frz ρ2 with
        | .bad => .bad
        | .ok x ρ3 => lcGo own g tt te ds (acc ++ [x]) (wipeR own ρ3)
/-- what a comprehension walks -/
def dLc (own : List Nat) (w : M Wk) (g : DG) (tt : M Bool) (te : M Rs) : M Rs := fun ρ => match w ρ with
  | .bad => .bad
  | .ok (ds, l) ρ1 => if ds.length ≤ sizeLine then match lcGo own g tt te ds [] (wipeR own ρ1) with
    | .bad => .bad
    | .ok acc ρ2 => .ok (.ow (.list acc)) (unl l (restore own ρ1 ρ2))
    else .bad
theorem lcGo_drop {own : List Nat} {g : DG} {tt : M Bool} {te : M Rs} {ds : List D} {i : Nat} {d : D} (h : ds[i]? = some d) (acc : List D) : lcGo own g tt te (ds.drop i) acc = lcGo own g tt te (d :: ds.drop (i + 1)) acc := by
  have hi := (List.getElem?_eq_some_iff.mp h).1
  rw [List.drop_eq_getElem_cons hi]
  have : ds[i] = d := (List.getElem?_eq_some_iff.mp h).2
  rw [this]
theorem sem_lc {own : List Nat} {w : M Wk} {g : DG} {tt : M Bool} {te : M Rs} : ∀ σ H Q, tSem K (dLc own w g tt te) σ H Q → tLc (tSemI K w) (tSemG K (fun i => i ∉ own) g) (tSemT K tt) (tSem K te) own σ H Q := fun σ H Q ⟨F, ρ, r, ρ', s, e, k⟩ => by
  unfold dLc at e
  cases ew : w ρ with
  | bad => rw [ew] at e; cases e
  | ok a ρ1 =>
    obtain ⟨ds, l⟩ := a
    rw [ew] at e
    simp only at e
    split at e
    case isFalse => cases e
    case isTrue hsz =>
    cases eg : lcGo own g tt te ds [] (wipeR own ρ1) with
    | bad => rw [eg] at e; cases e
    | ok acc ρ2 =>
      rw [eg] at e
      cases e
      refine ⟨F, ρ, ds, l, ρ1, s, ew, fun F1 H1 N J x1 hu sN hN it p hp => ?_⟩
      have lw : (wipe σ own).length = σ.length := wipe_length _ _
      have hw : ∀ i, i ∉ own → (wipe σ own)[i]? = σ[i]? := fun i h => wipe_out h
      have st0 : Sta K F1 H1 (wipe σ own) (wipeR own ρ1) := x1.st.wiped lw hw
      have n0 : ∀ i, ¬ HdAt (wipe σ own) (wipeR own ρ1) i p := fun i z => by
        obtain ⟨_, d, o⟩ := st0.held z
        exact o.ne hp
      have fp : F1 p = none := x1.st.le.free hp
      refine ⟨fun i m H' => m = ds.length - i ∧ i ≤ ds.length ∧ ∃ F' ρ' acc' vs, Ext K F1 H1 (wipe σ own) (wipeR own ρ1) F' H' (wipe σ own) ρ' ∧ (∀ j, ¬ HdAt (wipe σ own) ρ' j p) ∧ F' p = none ∧ H' p = some (.lst vs) ∧ RpA K F' vs acc' ∧ acc'.length ≤ i ∧
        lcGo own g tt te (ds.drop i) acc' ρ' = .ok acc ρ2, ⟨ds.length, by simp, Nat.zero_le _, F1, _, [], [], (Ext.refl st0).updFree hp fp n0, n0, fp, upd_same, .nil, Nat.le_refl _, by simpa using eg⟩, ?_⟩
      rintro i m H' ⟨rfl, hi, F', ρ', acc', vs, x, hn, hf, ho, ra, hla, el⟩
      have sN' : Same N H' := fun b o eb => x.kp b o (sN b o eb) fun j z => by
        have := wipe_ow x1.st.len hw z
        exact hN b (by rw [eb]; exact fun z => nomatch z) j this.2
      obtain ⟨itg, its⟩ := it i F' H' x.fr x.st.le sN'
      by_cases hlt : i < ds.length
      · have hd : ds[i]? = some ds[i] := List.getElem?_eq_getElem hlt
        obtain ⟨go, yl⟩ := itg _ hd
        rw [lcGo_drop hd] at el
        refine .inr ⟨go, fun H2 => ∃ F' ρ' acc' vs, Ext K F1 H1 (wipe σ own) (wipeR own ρ1) F' H2 (wipe σ own) ρ' ∧ (∀ j, ¬ HdAt (wipe σ own) ρ' j p) ∧ F' p = none ∧ H2 p = some (.lst vs) ∧ RpA K F' vs acc' ∧ acc'.length ≤ i + 1 ∧
          lcGo own g tt te (ds.drop (i + 1)) acc' ρ' = .ok acc ρ2, fun H2 q => ⟨ds.length - (i + 1), by omega, rfl, hlt, q⟩, fun v H2 y => ?_⟩
        obtain ⟨F2, gr, rp⟩ := yl v H2 y
        have y2 := x.st.grow gr
        have x2 := x.trans y2
        -- the list at p stands through what reads
        have hp' : H' p ≠ none := by rw [ho]; exact fun z => nomatch z
        unfold lcGo at el
        cases egd : g ds[i] ρ' with
        | none => rw [egd] at el; cases el
        | some ρ3 =>
          rw [egd] at el
          simp only at el
          refine ⟨F2, ρ', ds[i], ρ3, x2.st, rp, egd, fun σ3 x3 p3 => ?_⟩
          have l3 : σ3.length = (wipe σ own).length := p3.1
          have hw3 : ∀ i, i ∉ own → σ3[i]? = (wipe σ own)[i]? := fun i h => p3.2 i h
          refine ⟨by rw [wipe_eq l3 hw3, wipe_wipe], ?_⟩
          -- what holds of p behind any of these
          have atp : ∀ {F5 H5 : Hp} {ρ5 : List Sl}, Ext K F' H' (wipe σ own) ρ' F5 H5 σ3 ρ5 → H5 p = some (.lst vs) ∧ F5 p = none ∧ ∀ j, ¬ HdAt σ3 ρ5 j p := fun {F5 H5 ρ5} y => by
            refine ⟨y.kp p _ ho fun j z => hn j (.inl z), y.nf p hp' hn hf, fun j z => ?_⟩
            rcases y.hd z with w | w
            · exact hn j w
            · exact hp' w
          have back3 : ∀ {F5 H5 : Hp} {ρ5 : List Sl}, Sta K F5 H5 σ3 ρ5 → (∀ j, ¬ HdAt σ3 ρ5 j p) → ∀ j, ¬ HdAt (wipe σ own) (wipeR own ρ5) j p := fun {F5 H5 ρ5} st h j z => h j (wipe_hd st.len (fun i h => (hw3 i h).symm) z).2
          cases et : tt ρ3 with
          | bad => simp only [et] at el; cases el
          | ok b ρ4 =>
            simp only [et] at el
            refine ⟨F2, ρ3, b, ρ4, x3.st, et, fun F4 H4 x4 => ?_⟩
            have y4 := (y2.trans x3).trans x4
            cases b with
            | false =>
              simp only at el
              obtain ⟨a1, a2, a3⟩ := atp y4
              exact iteF ⟨F4, _, acc', vs, (x.trans y4).wiped l3.symm fun i h => (hw3 i h).symm, back3 y4.st a3, a2, a1, ra.mono y4.fr, by omega, el⟩
            | true =>
              simp only at el
              cases ee : bd te frz ρ4 with
              | bad => rw [ee] at el; cases el
              | ok z ρ5 =>
                rw [ee] at el
                simp only at el
                obtain ⟨r, ρ6, e1, e2⟩ := bd_ok ee
                refine iteT ⟨F4, ρ4, r, ρ6, x4.st, e1, fun F5 H5 u x5 q5 => ?_⟩
                obtain ⟨F6, y6, rz⟩ := frz_ok (y4.trans x5) (q5.base fun a z => y4.back z) e2
                obtain ⟨a1, a2, a3⟩ := atp y6
                refine ⟨vs, a1, ?_, F6, _, acc' ++ [z], vs ++ [u], ((x.trans y6).updFree hp a2 a3).wiped l3.symm fun i h => (hw3 i h).symm, back3 y6.st a3, a2, upd_same, (ra.mono y6.fr).app (.one rz), ?_, el⟩
                · rw [ra.length]; omega
                · rw [List.length_append, List.length_singleton]; omega
      · have ei : i = ds.length := by omega
        subst ei
        rw [List.drop_length] at el
        obtain ⟨e1, e2⟩ := pr_ok el
        subst e1; subst e2
        obtain ⟨x5, hd5⟩ := Ext.restored x1.st lw hw x
        refine .inl ⟨its rfl, k F' H' (.ref p) (x1.unlock hu x5) ⟨p, rfl, x1.back hp, hf, ⟨vs, ho, ra⟩, fun j z => ?_⟩⟩
        rcases hd5 j p (unl_hd z) with ⟨_, w⟩ | ⟨_, w⟩
        · obtain ⟨_, d, o⟩ := x1.st.held w
          exact o.ne hp
        · exact hn j w
def dYes : M Bool := pr true
theorem sem_yes : ∀ σ H Q, tSemT K dYes σ H Q → tYes σ H Q := fun σ H Q ⟨F, ρ, r, ρ', s, e, k⟩ => by
  cases e; exact k F H (Ext.refl s)
theorem ptsWeak {X : Cx} {e : List Expr} {t t' : TT} (h : PTs X e t) (w : ∀ σ H Q, t' σ H Q → t σ H Q) : PTs X e t' :=
  ⟨fun pins s σ H Q I q => h.run pins s σ H Q I (w σ H Q q)⟩
section
variable {X : Cx} {c : Expr} {tc : M Bool}
theorem tn : PTs X [] (tSemT X.kw dYes) := ptsWeak pts_nil sem_yes
theorem t1 (h : PT X c (tSemT X.kw tc)) : PTs X [c] (tSemT X.kw tc) := pts_one h
theorem lc {elt tg iter : Expr} {ifs : List Expr} {scope : Scope} {own : List (Str × Nat)} {pos : Pos} {w : M Wk} {g : DG} {tt : M Bool} {te : M Rs} (hc : X.calm = true) (hN : X.N.Nodup) (hi : PI X tg iter (tSemI X.kw w)) (ok : BlkOk X.N X.env.scope scope own)
    (hg : ∀ (s : Shared) (H : Hp) (C : Addr) (cl : List (Str × Addr)) (fp : List Addr), PG (X.blk s H scope (compEnvC scope cl C X.env) fp) tg (tSemG X.kw (fun i => i ∉ own.map (·.2)) g))
    (ht : ∀ (s : Shared) (H : Hp) (C : Addr) (cl : List (Str × Addr)) (fp : List Addr), PTs (X.blk s H scope (compEnvC scope cl C X.env) fp) ifs (tSemT X.kw tt))
    (he : ∀ (s : Shared) (H : Hp) (C : Addr) (cl : List (Str × Addr)) (fp : List Addr), PE (X.blk s H scope (compEnvC scope cl C X.env) fp) elt (tSem X.kw te)) (hs : ∀ x, foldedSetIterable iter X.env x = pure x := by intro _; rfl) :
    PE X (.ListComp elt [⟨tg, iter, ifs, 0⟩] scope pos) (tSem X.kw (dLc (own.map (·.2)) w g tt te)) := peWeak (pe_lc hc hN hi ok hg ht he hs) sem_lc
theorem slc {P : Nat → Prop} {i : Nat} {y : Str} {py : Pos} {elt tg iter : Expr} {ifs : List Expr} {scope : Scope} {own : List (Str × Nat)} {pos spos : Pos} {w : M Wk} {g : DG} {tt : M Bool} {te : M Rs} (hP : ¬ P i) (hc : X.calm = true) (hN : X.N.Nodup) (hy : X.N[i]? = some y) (hyl : X.env.scope.names.lookup y = some .local)
    (hsw : swapsWith (.ListComp elt [⟨tg, iter, ifs, 0⟩] scope pos) (some (.Name y py)) spos.line X.env = pure true) (hi : PI X tg iter (tSemI X.kw w)) (ok : BlkOk X.N X.env.scope scope own)
    (hg : ∀ (s : Shared) (H : Hp) (C : Addr) (cl : List (Str × Addr)) (fp : List Addr), PG (X.blk s H scope (compEnvC scope cl C X.env) fp) tg (tSemG X.kw (fun i => i ∉ own.map (·.2)) g))
    (ht : ∀ (s : Shared) (H : Hp) (C : Addr) (cl : List (Str × Addr)) (fp : List Addr), PTs (X.blk s H scope (compEnvC scope cl C X.env) fp) ifs (tSemT X.kw tt))
    (he : ∀ (s : Shared) (H : Hp) (C : Addr) (cl : List (Str × Addr)) (fp : List Addr), PE (X.blk s H scope (compEnvC scope cl C X.env) fp) elt (tSem X.kw te)) (hs : ∀ x, foldedSetIterable iter X.env x = pure x := by intro _; rfl) :
    PS X (.Assign [.Name y py] (.ListComp elt [⟨tg, iter, ifs, 0⟩] scope pos) spos) (tSemS X.kw Wx P (dSet i (dLc (own.map (·.2)) w g tt te))) := by
  refine psWeak (ps_setLc hc hN hy hyl hsw hi ok hg ht he hs) fun D σ H h => ?_
  exact sem_lc σ H _ (sem_set hP D σ H h)
end
end
end DL
namespace DL
open PySem PySem.Spec PyProof.Rows L2
variable {Wx : WX}
section
variable {K : KW} {F H F' H' : Hp} {σ σ' : SS} {ρ ρ' : List Sl}
/-! ### defs -/
/-- the parameters' slots at the end: those that may be lent as they stand, of the others nothing is told -/
def outP : List Bool → List Sl → List Sl
  | true :: bs, s :: ss => s :: outP bs ss
  | false :: bs, _ :: ss => .em :: outP bs ss
  | _, _ => []
/-- a def with N slots, the parameters first; ms: which of them are never stored to -/
def runDef (ms : List Bool) (n : Nat) (body : DS) : M Rs := fun args => match body (args ++ List.replicate (n - args.length) .em) with
  | .nx ρ => .ok (.fz .none) (outP ms ρ)
  | .rt (.fz d) ρ => .ok (.fz d) (outP ms ρ)
  | .rt (.ow d) ρ => .ok (.ow d) (outP ms ρ)
  | .rt (.nm i) ρ => match ρ[i]? with
    | some (.fz d) => .ok (.fz d) (outP ms ρ)
    | some (.ow d) => if ms.length ≤ i then .ok (.ow d) (outP ms ρ) else .ok (.fz d) (outP ms (ρ.set i (.fz d)))
    | some (.lk d) => .ok (.fz d) (outP ms (ρ.set i (.fz d)))
    | _ => .bad
  | _ => .bad
theorem outP_len : ∀ {ms : List Bool} {ρ : List Sl}, ms.length ≤ ρ.length → (outP ms ρ).length = ms.length
  | [], _, _ => by unfold outP; simp
  | true :: ms, [], h => by simp at h
  | false :: ms, [], h => by simp at h
  | true :: ms, s :: ρ, h => by unfold outP; rw [List.length_cons, List.length_cons, outP_len (by simpa using h)]
  | false :: ms, s :: ρ, h => by unfold outP; rw [List.length_cons, List.length_cons, outP_len (by simpa using h)]
theorem outP_get : ∀ {ms : List Bool} {ρ : List Sl} {i : Nat} {s : Sl}, (outP ms ρ)[i]? = some s → s = .em ∨ (ms[i]? = some true ∧ ρ[i]? = some s)
  | [], _, _, _, h => by unfold outP at h; simp at h
  | true :: ms, [], _, _, h => by unfold outP at h; simp at h
  | false :: ms, [], _, _, h => by unfold outP at h; simp at h
  | true :: ms, s :: ρ, 0, _, h => by unfold outP at h; simp at h; exact .inr ⟨rfl, by simpa using h⟩
  | false :: ms, s :: ρ, 0, _, h => by unfold outP at h; simp at h; exact .inl h.symm
  | true :: ms, s :: ρ, i + 1, _, h => by unfold outP at h; simp at h; exact (outP_get h).imp id fun z => ⟨by simpa using z.1, by simpa using z.2⟩
  | false :: ms, s :: ρ, i + 1, _, h => by unfold outP at h; simp at h; exact (outP_get h).imp id fun z => ⟨by simpa using z.1, by simpa using z.2⟩
theorem start_at {N : List Str} {vs : List V} (i : Nat) (hi : i < vs.length) : (start N vs)[i]? = (vs.map some)[i]? := by
  unfold L2.start
  rw [List.getElem?_append_left (by simpa using hi)]
theorem start_out {N : List Str} {vs : List V} {i : Nat} {v : V} (h : (start N vs)[i]? = some (some v)) : i < vs.length := by
  unfold L2.start at h
  rcases Nat.lt_or_ge i vs.length with z | z
  · exact z
  · rw [List.getElem?_append_right (by simpa using z), List.getElem?_replicate] at h
    split at h <;> cases h
section
variable {vs : List V} {N : List Str} {args : List Sl}
theorem start_hd (hl : vs.length = args.length) {k : Nat} {i : Nat} {b : Addr} : HdAt (start N vs) (args ++ List.replicate k .em) i b → HdAt (vs.map some) args i b := fun h => by
  have hi : i < vs.length := by rcases h with ⟨e, _⟩ | ⟨e, _⟩ <;> exact start_out e
  rcases h with ⟨e, d, q⟩ | ⟨e, d, q⟩
  · rw [start_at i hi] at e
    rw [List.getElem?_append_left (by omega)] at q
    exact .inl ⟨e, d, q⟩
  · rw [start_at i hi] at e
    rw [List.getElem?_append_left (by omega)] at q
    exact .inr ⟨e, d, q⟩
theorem start_ow (hl : vs.length = args.length) {k : Nat} {i : Nat} {b : Addr} : OwAt (start N vs) (args ++ List.replicate k .em) i b → OwAt (vs.map some) args i b := fun ⟨e, d, q⟩ => by
  have hi : i < vs.length := start_out e
  rw [start_at i hi] at e
  rw [List.getElem?_append_left (by omega)] at q
  exact ⟨e, d, q⟩
theorem start_sta (s : Sta K F H (vs.map some) args) (hn : vs.length ≤ N.length) : Sta K F H (start N vs) (args ++ List.replicate (N.length - args.length) .em) := by
  have hl : vs.length = args.length := by simpa using s.len
  refine ⟨s.le, by unfold L2.start; simp; omega, fun i sl q => ?_, fun i j b h1 h2 => s.dj i j b (start_hd hl h1) (start_hd hl h2)⟩
  rcases Nat.lt_or_ge i args.length with z | z
  · rw [List.getElem?_append_left z] at q
    rw [start_at i (by omega)]; exact s.sl i sl q
  · rw [List.getElem?_append_right z, List.getElem?_replicate] at q
    split at q
    · cases q; trivial
    · cases q
/-- behind a def's body: what the caller sees -/
theorem out_ext {ms : List Bool} (s : Sta K F H (vs.map some) args) (hn : vs.length ≤ N.length) (hm : ms.length = vs.length)
    (x : Ext K F H (start N vs) (args ++ List.replicate (N.length - args.length) .em) F' H' σ' ρ') (p : Prot (fun i => ms[i]? = some true) (start N vs) σ') :
    Ext K F H (vs.map some) args F' H' (vs.map some) (outP ms ρ') ∧ ∀ i b, HdAt (vs.map some) (outP ms ρ') i b → i < vs.length ∧ HdAt σ' ρ' i b := by
  have hl : vs.length = args.length := by simpa using s.len
  have hls : (start N vs).length = N.length := by unfold L2.start; simp; omega
  have hlr : ρ'.length = N.length := by rw [← x.st.len, p.1, hls]
  have same : ∀ i, ms[i]? = some true → σ'[i]? = (vs.map some)[i]? := fun i hi => by
    have hi' : i < vs.length := by rw [← hm]; exact (List.getElem?_eq_some_iff.mp hi).1
    rw [p.2 i hi, start_at i hi']
  have hd : ∀ i b, HdAt (vs.map some) (outP ms ρ') i b → i < vs.length ∧ HdAt σ' ρ' i b := fun i b h => by
    rcases h with ⟨e, d, q⟩ | ⟨e, d, q⟩
    · rcases outP_get q with z | ⟨z1, z2⟩
      · cases z
      · exact ⟨by rw [← hm]; exact (List.getElem?_eq_some_iff.mp z1).1, .inl ⟨by rw [same i z1]; exact e, d, z2⟩⟩
    · rcases outP_get q with z | ⟨z1, z2⟩
      · cases z
      · exact ⟨by rw [← hm]; exact (List.getElem?_eq_some_iff.mp z1).1, .inr ⟨by rw [same i z1]; exact e, d, z2⟩⟩
  refine ⟨⟨⟨x.st.le, by rw [outP_len (by omega), List.length_map, hm], fun i sl q => ?_, fun i j b h1 h2 => x.st.dj i j b (hd i b h1).2 (hd j b h2).2⟩, x.fr, fun b o e n => x.kp b o e fun i z => n i (start_ow hl z),
    fun b e n q => x.nf b e (fun i z => n i (start_hd hl z)) q, x.gr, fun i b q => ?_, fun i b q => ?_⟩, hd⟩
  · rcases outP_get q with z | ⟨z1, z2⟩
    · rw [z]; trivial
    · rw [← same i z1]; exact x.st.sl i sl z2
  · obtain ⟨e, d, q⟩ := q
    rcases outP_get q with z | ⟨z1, z2⟩
    · cases z
    · exact (x.ow i b ⟨by rw [same i z1]; exact e, d, z2⟩).imp (start_ow hl) id
  · obtain ⟨e, d, q⟩ := q
    rcases outP_get q with z | ⟨z1, z2⟩
    · cases z
    · exact (x.lk i b ⟨by rw [same i z1]; exact e, d, z2⟩).imp (start_hd hl) id
end
/-- a def's body keeps the def's promise -/
theorem sem_def {ms : List Bool} {N : List Str} {body : DS} {vs : List V} {Q : VK} (hn : vs.length ≤ N.length) (hm : ms.length = vs.length) (h : tSem K (runDef ms N.length body) (vs.map some) H Q) :
    tSemS K Wx (fun i => ms[i]? = some true) body { nx := fun _ H' => Q .non H', rt := Q } (start N vs) H := by
  obtain ⟨F, args, r, ρ', s, e, k⟩ := h
  have hl : vs.length = args.length := by simpa using s.len
  have s0 := start_sta (N := N) s hn
  refine ⟨F, _, s0, ?_⟩
  unfold runDef at e
  cases eb : body (args ++ List.replicate (N.length - args.length) .em) with
  | nx ρ1 =>
    rw [eb] at e; cases e
    exact fun F' H' σ' x p => k F' H' .non (out_ext s hn hm x p).1 .non
  | bk ρ1 => rw [eb] at e; cases e
  | ct ρ1 => rw [eb] at e; cases e
  | bad => rw [eb] at e; cases e
  | rt r1 ρ1 =>
    rw [eb] at e
    intro F' H' σ' v x p q
    obtain ⟨x1, hd1⟩ := out_ext s hn hm x p
    cases r1 with
    | fz d => cases e; exact k F' H' v x1 q
    | ow d =>
      cases e
      obtain ⟨a, q1, q2, q3, q4, q5⟩ := q
      exact k F' H' v x1 ⟨a, q1, q2, q3, q4, fun i z => q5 i (hd1 i a z).2⟩
    | nm i =>
      have q : σ'[i]? = some (some v) := q
      simp only at e
      cases q1 : ρ1[i]? with
      | none => rw [q1] at e; cases e
      | some sl =>
        rw [q1] at e
        have z := x.st.sl i sl q1
        rw [q] at z
        cases sl with
        | em => cases e
        | fz d =>
          cases e
          obtain ⟨w, w1, w2⟩ := z
          cases w1
          exact k F' H' v x1 w2
        | ow d =>
          obtain ⟨a, w1, w2, w3⟩ := z
          cases w1
          simp only at e
          split at e
          · rename_i hi
            cases e
            refine k F' H' _ x1 ⟨a, rfl, ?_, w2, w3, fun j z => ?_⟩
            · rcases x.ow i a ⟨q, d, q1⟩ with y | y
              · have := start_out y.1
                omega
              · exact y
            · obtain ⟨z1, z2⟩ := hd1 j a z
              have := x.st.dj i j a (.inl ⟨q, d, q1⟩) z2
              omega
          · cases e
            obtain ⟨F2, x2, rp⟩ := x.freeze q q1 (.inl rfl)
            exact k F2 H' _ (out_ext s hn hm x2 p).1 rp
        | lk d =>
          obtain ⟨a, w1, w2, w3⟩ := z
          cases w1
          cases e
          obtain ⟨F2, x2, rp⟩ := x.freeze q q1 (.inr rfl)
          exact k F2 H' _ (out_ext s hn hm x2 p).1 rp
end
section
variable {P : Program} {w : World} {K : KW} {mg : Str → Option Value} {base : Heap}
/-- THE RULE for a def -/
theorem fun_ok {x qual : Str} {st : Stmt} {f : Addr} {fd : FuncData} {N ps : List Str} {k : Nat} {ms : List Bool} {body : DS} (F : Fun K x qual st f fd) (S : FnScope N ps (defScope st)) (hm : ms.length = ps.length)
    (hbody : ∀ (cdv : Value) (A : Around) (outer : List Env) (s : Shared) (H : Hp) (E : XK), Room k (A.deeper (envOfC qual (defScope st) s.heap.objs.size f cdv)) →
      PSs (cxOf CX0 P w K mg base N qual (defScope st) f cdv A outer s H E).nox (defBody st) (tSemS K Wno (fun i => ms[i]? = some true) body)) :
    FnOk P w K mg base CX0 (k + 1) f fd ps (spD K ps.length (runDef ms N.length body)) := by
  have hpn : ps.length ≤ N.length := by
    have := congrArg List.length S.pre
    rw [List.length_take] at this
    omega
  refine F.ok S (fun vs H Q E h => h.1) fun cdv A outer s H vs Q E hr h => ?_
  exact ⟨_, hbody cdv A outer s H E hr, sem_def (by rw [h.1]; exact hpn) (by rw [hm, h.1]) h.2⟩
/-- f(..) -/
theorem ecall {X : Cx} {k : Nat} {f : Addr} {fd : FuncData} {ps : List Str} {sem : M Rs} {n : Nat} {x : Str} {p pos : Pos} {e : Expr} {es : List Expr} {fa : M (List Rs)} {ls : List Bool} (G : FnOk X.prog X.w X.kw X.mg X.base CX0 k f fd ps (spD X.kw n sem)) (hr : Room k X.A) (hg : Gl X x) (hm : X.mg x = some (.ref f)) (hk : PySem.W.keepIn X.kw (.ref f) = true)
    (hb : Binds X.kw fd ps []) (hn : ls.length = n) (ha : PA X (e :: es) (tSemA X.kw fa)) (hdb : (x == ("__debug__" : Str)) = false := by decide) (he : starEach (e :: es) X.env = (false, eval e X.env) :: starEach es X.env := by rfl) (hpl : (backTo pos (starEach es X.env)).any (·.1) = false := by rfl) :
    PE X (.Call (.Name x p) (e :: es) [] pos) (tSem X.kw (dCall ls sem fa)) := peWeak (pe_call G hr hg hm hk hb .nil pass0 ha hdb he hpl) (sem_call hn)
end
end DL
namespace DL
open PySem PySem.Spec PyProof.Rows L2
/-! ### operations of values, by functions of data -/
def rG (K : KW) (g : G2) : R2 := fun x y H Q => ∃ F dx dy res, Same F H ∧ Vw K F H x dx ∧ Vw K F H y dy ∧ g dx dy = some res ∧ NewR K F H res Q
def rG1 (K : KW) (g : D → Option Rs) : V → Hp → VK → Prop := fun x H Q => ∃ F dx res, Same F H ∧ Vw K F H x dx ∧ g dx = some res ∧ NewR K F H res Q
def rGN (K : KW) (g : List D → Option Rs) : List V → Hp → VK → Prop := fun x H Q => ∃ F dx res, Same F H ∧ VwA K F H x dx ∧ g dx = some res ∧ NewR K F H res Q
def rGM (K : KW) (g : D → List D → Option Rs) : V → List V → Hp → VK → Prop := fun x xs H Q => ∃ F dx ds res, Same F H ∧ Vw K F H x dx ∧ VwA K F H xs ds ∧ g dx ds = some res ∧ NewR K F H res Q
theorem op2G {K : KW} {g : G2} : Op2 K (rG K g) g := fun F _ _ _ dx dy res _ s h1 h2 e q => ⟨F, dx, dy, res, s, h1, h2, e, q⟩
theorem op1G {K : KW} {g : D → Option Rs} : Op1 K (rG1 K g) g := fun F _ _ dx res _ s h1 e q => ⟨F, dx, res, s, h1, e, q⟩
theorem opNG {K : KW} {g : List D → Option Rs} : OpN K (rGN K g) g := fun F _ _ dx res _ s h1 e q => ⟨F, dx, res, s, h1, e, q⟩
section
variable {X : Cx} {a b c : Expr} {fa fb fc : M Rs} {pos : Pos}
theorem e2 {op : Operator} {g : G2} (ho : OpR X (binaryOp op) (rG X.kw g)) (ha : PE X a (tSem X.kw fa)) (hb : PE X b (tSem X.kw fb)) : PE X (.BinOp a op b pos) (tSem X.kw (dOp2 g fa fb)) := peWeak (pe_op ho ha hb) (sem_op2 op2G)
theorem e1 {op : UnaryOp} {g : D → Option Rs} (ho : UnR X (unaryOp op) (rG1 X.kw g)) (ha : PE X a (tSem X.kw fa)) : PE X (.UnaryOp op a pos) (tSem X.kw (dOp1 g fa)) := peWeak (pe_un ho ha) (sem_op1 op1G)
abbrev gB (g : D → D → Option Bool) : G2 := fun a b => (g a b).map fun k => .fz (.bool k)
/-- a comparison as a value, as a test -/
theorem ecmp {op : CmpOp} {g : D → D → Option Bool} (ho : OpR X (compareOp op) (rG X.kw (gB g))) (ha : PE X a (tSem X.kw fa)) (hb : PE X b (tSem X.kw fb)) (hm : behindInMarks op b = false := by first | exact nomark _ | rfl) : PE X (.Compare a [op] [b] pos) (tSem X.kw (dOp2 (gB g) fa fb)) := peWeak (pe_cmpR ho ha hb hm) (sem_op2 op2G)
theorem tcmp {op : CmpOp} {g : D → D → Option Bool} (ho : OpR X (compareOp op) (rG X.kw (gB g))) (ha : PE X a (tSem X.kw fa)) (hb : PE X b (tSem X.kw fb)) (hm : behindInMarks op b = false := by first | exact nomark _ | rfl) : PT X (.Compare a [op] [b] pos) (tSemT X.kw (dOp2T g fa fb)) := ptWeak (pt_cmpR ho ha hb hm) (sem_op2T op2G)
/-- f(..), f a built-in -/
theorem eB {x : Str} {p : Pos} {e : Expr} {es : List Expr} {id : String} {f : M (List Rs)} {g : List D → Option Rs} (hc : CallR X (.builtin id) (rGN X.kw g)) (hg : Gl X x) (hm : X.mg x = none) (hv : bootBuiltins x = some (.builtin id)) (ha : PA X (e :: es) (tSemA X.kw f)) (hn : x ≠ "__name__" := by decide) (hdb : (x == ("__debug__" : Str)) = false := by decide)
    (he : starEach (e :: es) X.env = (false, eval e X.env) :: starEach es X.env := by rfl) (hpl : (backTo pos (starEach es X.env)).any (·.1) = false := by rfl) : PE X (.Call (.Name x p) (e :: es) [] pos) (tSem X.kw (dB g f)) := peWeak (pe_callB hc hg hm hv ha hn hdb he hpl) (sem_B opNG)
theorem eTy {x : Str} {p : Pos} {e : Expr} {es : List Expr} {id : String} {f : M (List Rs)} {g : List D → Option Rs} (hc : CallR X (.type id) (rGN X.kw g)) (hg : Gl X x) (hm : X.mg x = none) (hv : bootBuiltins x = some (.type id)) (ha : PA X (e :: es) (tSemA X.kw f)) (hn : x ≠ "__name__" := by decide) (hdb : (x == ("__debug__" : Str)) = false := by decide)
    (he : starEach (e :: es) X.env = (false, eval e X.env) :: starEach es X.env := by rfl) (hpl : (backTo pos (starEach es X.env)).any (·.1) = false := by rfl) : PE X (.Call (.Name x p) (e :: es) [] pos) (tSem X.kw (dB g f)) := peWeak (pe_callTy hc hg hm hv ha hn hdb he hpl) (sem_B opNG)
end
/-! ### numbers -/
def mulOk (i j : Int) : Bool := decide (-(2 ^ 64) < i ∧ i < 2 ^ 64) || decide (-(2 ^ 64) < j ∧ j < 2 ^ 64)
def gAdd : G2
  | .int i, .int j => some (.fz (.int (i + j)))
  | .str i, .str j => if i.length + j.length ≤ sizeLine then some (.fz (.str (i ++ j))) else none
  | .list i, .list j => if i.length + j.length ≤ sizeLine then some (.ow (.list (i ++ j))) else none
  | .tuple i, .tuple j => if i.length + j.length ≤ sizeLine then some (.fz (.tuple (i ++ j))) else none
  | _, _ => none
def gSub : G2
  | .int i, .int j => some (.fz (.int (i - j)))
  | _, _ => none
def gMul : G2
  | .int i, .int j => if mulOk i j then some (.fz (.int (i * j))) else none
  | _, _ => none
def gDiv : G2
  | .int i, .int j => if 0 < j ∧ j < 1073741824 then some (.fz (.int (i / j))) else if j ≠ 0 ∧ j.natAbs < 1073741824 then some (.fz (.int (i.fdiv j))) else none
  | _, _ => none
def gMod : G2
  | .int i, .int j => if 0 < j then some (.fz (.int (i % j))) else if j ≠ 0 then some (.fz (.int (i.fmod j))) else none
  | _, _ => none
def gPow : G2
  | .int i, .int j => if 0 ≤ j ∧ j ≤ 1000000 ∧ i.natAbs < 2 ^ 64 then some (.fz (.int (i ^ j.toNat))) else none
  | _, _ => none
def gNeg : D → Option Rs
  | .int i => some (.fz (.int (-i)))
  | _ => none
section
variable {X : Cx}
theorem cat_rd : OpR X (binaryOp .Add) (fun x y H Q => ∃ l b xs zs, x = .ref l ∧ y = .ref b ∧ Rd H l (.lst xs) ∧ Rd H b (.lst zs) ∧ xs.length + zs.length ≤ sizeLine ∧ ∀ p, H p = none → Q (.ref p) (upd H p (.lst (xs ++ zs)))) := by
  intro pins s σ H x y v u Q I rx ry h
  obtain ⟨l, b, xs, zs, rfl, rfl, hH, hB, hz, q⟩ := h
  cases rx
  cases ry
  obtain ⟨z, its, n, r, e⟩ := hH.ok I.hok
  obtain ⟨z2, its2, n2, r2, e2⟩ := hB.ok I.hok
  have hl := r.length
  have hl2 := r2.length
  refine PySem.P.add_list e e2 ?_ (by rw [List.size_toArray, List.size_toArray]; omega)
  have ea : its.toArray ++ its2.toArray = (its ++ its2).toArray := by simp
  rw [ea]
  exact ⟨.ref _, _, I.lnew (t' := s.toks) (r.append r2) (by rw [List.length_append]; omega), rfl, q _ I.fresh⟩
/-- t + u, the new tuple told to have no dict of its own -/
def rCatAD (K : KW) : R2 := fun x y H Q => ∃ a b xs ys, x = .ref a ∧ y = .ref b ∧ SqT K H a xs ∧ SqT K H b ys ∧ xs.length + ys.length ≤ sizeLine ∧
  (xs = [] → Q (.ref b) H) ∧ (xs ≠ [] → ys = [] → Q (.ref a) H) ∧ (xs ≠ [] → ys ≠ [] → ∀ p ob, H p = none → ob.dict = none → Q (.ref p) (upd H p (.frz ob (.tup (xs ++ ys)))))
theorem op_catAD : OpR X (binaryOp .Add) (rCatAD X.kw) := by
  intro pins s σ H x y v u Q I rx ry h
  obtain ⟨a, b, xs, ys, rfl, rfl, ha, hb, hz, q0, q1, q2⟩ := h
  cases rx
  cases ry
  obtain ⟨its, r1, p1, _⟩ := I.tuple ha
  obtain ⟨its2, r2, p2, _⟩ := I.tuple hb
  by_cases hx : xs = []
  · subst hx
    cases r1
    exact cat_tup0 p1 p2 ⟨.ref b, H, I, rfl, q0 rfl⟩
  · refine HT.cat_tup p1 p2 (fun z => hx (r1.nil_iff.mp z)) (fun z => ⟨.ref a, H, I, rfl, q1 hx (r2.nil_iff.mp z)⟩) (fun z => ?_) (by rw [← r1.length, ← r2.length]; exact hz)
    exact ⟨.ref s.heap.objs.size, _, I.laid (t' := s.toks) (o := .frz { cls := .type "tuple", data := .seq (its ++ its2).toArray } (.tup (xs ++ ys))) (fun b ob q => Heap.get?_push_of_some _ q) (Nat.le_refl _) ⟨Heap.get?_push_size _ rfl, by rw [List.length_append]; exact hz, _, r1.append r2, IsTup.new _ _⟩, rfl, q2 hx (fun w => z (r2.nil_iff.mpr w)) _ _ (I.hok.fresh (Nat.le_refl _)) rfl⟩
theorem oAdd : OpR X (binaryOp .Add) (rG X.kw gAdd) := by
  intro pins s σ H x y v u Q I rx ry ⟨F, dx, dy, res, sm, hx, hy, e, q⟩
  unfold gAdd at e
  split at e
  · cases e
    exact op_add pins s σ H x y v u Q I rx ry ⟨_, _, hx.int, hy.int, q.same sm (.int _)⟩
  · split at e
    case isFalse => cases e
    case isTrue hl => cases e; exact op_add_str pins s σ H x y v u Q I rx ry ⟨_, _, hx.str, hy.str, hl, q.same sm (.str _)⟩
  · split at e
    case isFalse => cases e
    case isTrue hl =>
      cases e
      obtain ⟨a, vs, e1, h1, r1⟩ := hx.list sm
      obtain ⟨b, ws, e2, h2, r2⟩ := hy.list sm
      exact cat_rd pins s σ H x y v u Q I rx ry ⟨a, b, vs, ws, e1, e2, h1, h2, by rw [r1.length, r2.length]; exact hl, fun p hp => q.lst sm (r1.app r2) hp⟩
  · split at e
    case isFalse => cases e
    case isTrue hl =>
      cases e
      obtain ⟨a, vs, e1, h1, r1⟩ := hx.tuple sm
      obtain ⟨b, ws, e2, h2, r2⟩ := hy.tuple sm
      have p1 := hx.rp (by intro _ z; cases z) (by intro _ z; cases z)
      have p2 := hy.rp (by intro _ z; cases z) (by intro _ z; cases z)
      refine op_catAD pins s σ H x y v u Q I rx ry ⟨a, b, vs, ws, e1, e2, h1, h2, by rw [r1.length, r2.length]; exact hl, fun z => ?_, fun _ z => ?_, fun _ _ p ob hp hd => q.tup sm (r1.app r2) hp hd⟩
      · subst z; cases r1
        exact q.same sm (e2 ▸ p2)
      · subst z; cases r2
        rw [List.append_nil] at q
        exact q.same sm (e1 ▸ p1)
  · cases e
theorem oSub : OpR X (binaryOp .Sub) (rG X.kw gSub) := by
  intro pins s σ H x y v u Q I rx ry ⟨F, dx, dy, res, sm, hx, hy, e, q⟩
  unfold gSub at e
  split at e
  · cases e
    exact op_sub pins s σ H x y v u Q I rx ry ⟨_, _, hx.int, hy.int, q.same sm (.int _)⟩
  · cases e
theorem oMul : OpR X (binaryOp .Mult) (rG X.kw gMul) := by
  intro pins s σ H x y v u Q I rx ry ⟨F, dx, dy, res, sm, hx, hy, e, q⟩
  unfold gMul at e
  split at e
  · split at e
    case isFalse => cases e
    case isTrue h =>
      cases e
      unfold mulOk at h
      rw [Bool.or_eq_true] at h
      exact op_mul pins s σ H x y v u Q I rx ry ⟨_, _, hx.int, hy.int, h.imp of_decide_eq_true of_decide_eq_true, q.same sm (.int _)⟩
  · cases e
theorem oDiv : OpR X (binaryOp .FloorDiv) (rG X.kw gDiv) := by
  intro pins s σ H x y v u Q I rx ry ⟨F, dx, dy, res, sm, hx, hy, e, q⟩
  unfold gDiv at e
  split at e
  · split at e
    case isTrue h => cases e; exact op_fdiv pins s σ H x y v u Q I rx ry ⟨_, _, hx.int, hy.int, h, q.same sm (.int _)⟩
    case isFalse =>
      split at e
      case isTrue h => cases e; exact op_fdivN pins s σ H x y v u Q I rx ry ⟨_, _, hx.int, hy.int, h, q.same sm (.int _)⟩
      case isFalse => cases e
  · cases e
theorem oMod : OpR X (binaryOp .Mod) (rG X.kw gMod) := by
  intro pins s σ H x y v u Q I rx ry ⟨F, dx, dy, res, sm, hx, hy, e, q⟩
  unfold gMod at e
  split at e
  · split at e
    case isTrue h => cases e; exact op_mod pins s σ H x y v u Q I rx ry ⟨_, _, hx.int, hy.int, h, q.same sm (.int _)⟩
    case isFalse =>
      split at e
      case isTrue h => cases e; exact op_modN pins s σ H x y v u Q I rx ry ⟨_, _, hx.int, hy.int, h, q.same sm (.int _)⟩
      case isFalse => cases e
  · cases e
theorem oPow : OpR X (binaryOp .Pow) (rG X.kw gPow) := by
  intro pins s σ H x y v u Q I rx ry ⟨F, dx, dy, res, sm, hx, hy, e, q⟩
  unfold gPow at e
  split at e
  · split at e
    case isTrue h => cases e; exact op_pow pins s σ H x y v u Q I rx ry ⟨_, _, hx.int, hy.int, h, q.same sm (.int _)⟩
    case isFalse => cases e
  · cases e
theorem oNeg : UnR X (unaryOp .USub) (rG1 X.kw gNeg) := by
  intro pins s σ H x v Q I rx ⟨F, dx, res, sm, hx, e, q⟩
  unfold gNeg at e
  split at e
  · cases e
    exact un_neg pins s σ H x v Q I rx ⟨_, hx.int, q.same sm (.int _)⟩
  · cases e
end
/-! ### data without dicts read off the heap -/
mutual
def noD : D → Bool
  | .dict _ => false
  | .list ds => noDA ds
  | .tuple ds => noDA ds
  | _ => true
def noDA : List D → Bool
  | [] => true
  | d :: ds => noD d && noDA ds
end
mutual
theorem Rp.dp {K : KW} {F H : Hp} (s : Same F H) : ∀ {v : V} {d : D}, Rp K F v d → noD d = true → Dp K H v d
  | _, _, .non, _ => .non
  | _, _, .bl b, _ => .bl b
  | _, _, .int i, _ => .int i
  | _, _, .str x, _ => .str x
  | _, _, .lst h t, n => .lst (.inl (rd_mono s h)) (RpA.dp s t (by simpa [noD] using n))
  | _, _, .tup h t, n => .tup (tupD_mono s h).sq (RpA.dp s t (by simpa [noD] using n))
  | _, _, .dct h t, n => by simp [noD] at n
  | _, _, .tdct h t u, n => by simp [noD] at n
theorem RpA.dp {K : KW} {F H : Hp} (s : Same F H) : ∀ {v : List V} {d : List D}, RpA K F v d → noDA d = true → DpAll K H v d
  | _, _, .nil, _ => .nil
  | _, _, .cons h t, n => by
    rw [noDA, Bool.and_eq_true] at n
    exact .cons (Rp.dp s h n.1) (RpA.dp s t n.2)
end
mutual
theorem noD_lay : ∀ d : D, d.canLay0 = true → noD d = true
  | .none, _ => by simp [noD]
  | .bool _, _ => by simp [noD]
  | .int _, _ => by simp [noD]
  | .str _, _ => by simp [noD]
  | .list ds, h => by simp only [noD]; exact noDA_lay ds (by simpa [PyData.canLay0] using h)
  | .tuple ds, h => by simp only [noD]; exact noDA_lay ds (by simpa [PyData.canLay0] using h)
  | .dict _, h => by simp [PyData.canLay0] at h
theorem noDA_lay : ∀ ds : List D, PyData.canLayAll0 ds = true → noDA ds = true
  | [], _ => by simp [noDA]
  | d :: ds, h => by
    rw [PyData.canLayAll0, Bool.and_eq_true] at h
    rw [noDA, noD_lay d h.1, noDA_lay ds h.2]; rfl
end
theorem noD_shaped {d : D} (h : SeqAt.shaped d = true) : noD d = true := noD_lay d (SeqAt.canLay_of_shaped h)
theorem Vw.dp {K : KW} {F H : Hp} {v : V} {d : D} (s : Same F H) (h : Vw K F H v d) (n : noD d = true) : Dp K H v d := by
  rcases h with h | ⟨a, rfl, o⟩
  · exact h.dp s n
  · cases d with
    | list ds => obtain ⟨vs, e, r⟩ := o; exact .lst (.inl (.inl e)) (r.dp s (by simpa [noD] using n))
    | dict ds => simp [noD] at n
    | _ => exact o.elim
/-! ### comparisons -/
def gEq : D → D → Option Bool
  | .int i, .int j => some (i == j)
  | .str i, .str j => some (i == j)
  | .bool i, .bool j => some (i == j)
  | x, y => if SeqAt.shaped x && SeqAt.shaped y then some (PyData.eqv x y) else none
def gNe (x y : D) : Option Bool := (gEq x y).map fun b => !b
def isNone : D → Bool
  | .none => true
  | _ => false
def cmpOk (x y : D) : Bool := PySem.W.alike x y && !isNone x && noD x && noD y && decide (x.depth ≤ 64)
def gLt : D → D → Option Bool
  | .int i, .int j => some (decide (i < j))
  | x, y => if cmpOk x y then some (PySem.W.dataLt x y) else none
def gLe : D → D → Option Bool
  | .int i, .int j => some (decide (i ≤ j))
  | x, y => if cmpOk x y then some (!PySem.W.dataLt y x) else none
def gGt : D → D → Option Bool
  | .int i, .int j => some (decide (j < i))
  | x, y => if cmpOk x y then some (PySem.W.dataLt y x) else none
def gGe : D → D → Option Bool
  | .int i, .int j => some (decide (j ≤ i))
  | x, y => if cmpOk x y then some (!PySem.W.dataLt x y) else none
theorem map_b {o : Option Bool} {res : Rs} (e : o.map (fun k => Rs.fz (.bool k)) = some res) : ∃ k, o = some k ∧ res = .fz (.bool k) := by
  cases o with
  | none => cases e
  | some k => cases e; exact ⟨k, rfl, rfl⟩
section
variable {X : Cx}
theorem oEq (hu : X.A.units + 64 < cLine) : OpR X (compareOp .Eq) (rG X.kw (gB gEq)) := by
  intro pins s σ H x y v u Q I rx ry ⟨F, dx, dy, res, sm, hx, hy, e, q⟩
  obtain ⟨k, e0, rfl⟩ := map_b e
  clear e
  have e := e0
  clear e0
  unfold gEq at e
  split at e
  · cases e
    refine op_eq pins s σ H x y v u Q I rx ry ⟨by rw [hx.int, hy.int]; rfl, ?_⟩
    rw [hx.int, hy.int, dec_int]; exact q.same sm (.bl _)
  · cases e
    refine op_eq pins s σ H x y v u Q I rx ry ⟨by rw [hx.str, hy.str]; rfl, ?_⟩
    rw [hx.str, hy.str, dec_str]; exact q.same sm (.bl _)
  · cases e
    refine op_eq pins s σ H x y v u Q I rx ry ⟨by rw [hx.bool, hy.bool]; rfl, ?_⟩
    rw [hx.bool, hy.bool, dec_bl]; exact q.same sm (.bl _)
  · split at e
    case isFalse => cases e
    case isTrue h =>
      cases e
      rw [Bool.and_eq_true] at h
      exact op_eqD hu pins s σ H x y v u Q I rx ry ⟨_, _, hx.dp sm (noD_shaped h.1), hy.dp sm (noD_shaped h.2), h.1, h.2, q.same sm (.bl _)⟩
theorem oNe (hu : X.A.units + 64 < cLine) : OpR X (compareOp .NotEq) (rG X.kw (gB gNe)) := by
  intro pins s σ H x y v u Q I rx ry ⟨F, dx, dy, res, sm, hx, hy, e, q⟩
  obtain ⟨k, e0, rfl⟩ := map_b e
  clear e
  have e := e0
  clear e0
  unfold gNe at e
  obtain ⟨k', e0, rfl⟩ : ∃ k', gEq dx dy = some k' ∧ k = !k' := by
    cases h : gEq dx dy with
    | none => rw [h] at e; cases e
    | some k' => rw [h] at e; cases e; exact ⟨k', rfl, rfl⟩
  clear e
  have e := e0
  clear e0
  unfold gEq at e
  split at e
  · cases e
    refine op_ne pins s σ H x y v u Q I rx ry ⟨by rw [hx.int, hy.int]; rfl, ?_⟩
    rw [hx.int, hy.int, dec_int]; exact q.same sm (.bl _)
  · cases e
    refine op_ne pins s σ H x y v u Q I rx ry ⟨by rw [hx.str, hy.str]; rfl, ?_⟩
    rw [hx.str, hy.str, dec_str]; exact q.same sm (.bl _)
  · cases e
    refine op_ne pins s σ H x y v u Q I rx ry ⟨by rw [hx.bool, hy.bool]; rfl, ?_⟩
    rw [hx.bool, hy.bool, dec_bl]; exact q.same sm (.bl _)
  · split at e
    case isFalse => cases e
    case isTrue h =>
      cases e
      rw [Bool.and_eq_true] at h
      exact op_neD hu pins s σ H x y v u Q I rx ry ⟨_, _, hx.dp sm (noD_shaped h.1), hy.dp sm (noD_shaped h.2), h.1, h.2, q.same sm (.bl _)⟩
theorem cmp_room {x y : D} (h : cmpOk x y = true) (hu : X.A.units + 64 < cLine) : PySem.W.alike x y = true ∧ x ≠ .none ∧ noD x = true ∧ noD y = true ∧ X.A.units + min x.depth y.depth < cLine := by
  unfold cmpOk at h
  simp only [Bool.and_eq_true, decide_eq_true_eq] at h
  obtain ⟨⟨⟨⟨h1, h2⟩, h3⟩, h4⟩, h5⟩ := h
  refine ⟨h1, fun z => ?_, h3, h4, ?_⟩
  · subst z; simp [isNone] at h2
  · have := Nat.min_le_left x.depth y.depth
    omega
theorem oLt (hu : X.A.units + 64 < cLine) : OpR X (compareOp .Lt) (rG X.kw (gB gLt)) := by
  intro pins s σ H x y v u Q I rx ry ⟨F, dx, dy, res, sm, hx, hy, e, q⟩
  obtain ⟨k, e0, rfl⟩ := map_b e
  clear e
  have e := e0
  clear e0
  unfold gLt at e
  split at e
  · cases e
    exact op_lt pins s σ H x y v u Q I rx ry ⟨_, _, hx.int, hy.int, q.same sm (.bl _)⟩
  · split at e
    case isFalse => cases e
    case isTrue h =>
      cases e
      obtain ⟨h1, h2, h3, h4, h5⟩ := cmp_room h hu
      obtain ⟨as, r1⟩ := Dp.reads I _ x v (hx.dp sm h3) rx
      obtain ⟨bs, r2⟩ := Dp.reads I _ y u (hy.dp sm h4) ry
      exact PySem.W.lt_data r1 r2 h1 h2 h5 ⟨.bl _, H, I, rfl, q.same sm (.bl _)⟩
theorem oGt (hu : X.A.units + 64 < cLine) : OpR X (compareOp .Gt) (rG X.kw (gB gGt)) := by
  intro pins s σ H x y v u Q I rx ry ⟨F, dx, dy, res, sm, hx, hy, e, q⟩
  obtain ⟨k, e0, rfl⟩ := map_b e
  clear e
  have e := e0
  clear e0
  unfold gGt at e
  split at e
  · cases e
    exact op_gt pins s σ H x y v u Q I rx ry ⟨_, _, hx.int, hy.int, q.same sm (.bl _)⟩
  · split at e
    case isFalse => cases e
    case isTrue h =>
      cases e
      obtain ⟨h1, h2, h3, h4, h5⟩ := cmp_room h hu
      obtain ⟨as, r1⟩ := Dp.reads I _ x v (hx.dp sm h3) rx
      obtain ⟨bs, r2⟩ := Dp.reads I _ y u (hy.dp sm h4) ry
      exact PySem.W.gt_data r1 r2 h1 h2 h5 ⟨.bl _, H, I, rfl, q.same sm (.bl _)⟩
theorem oLe (hu : X.A.units + 64 < cLine) : OpR X (compareOp .LtE) (rG X.kw (gB gLe)) := by
  intro pins s σ H x y v u Q I rx ry ⟨F, dx, dy, res, sm, hx, hy, e, q⟩
  obtain ⟨k, e0, rfl⟩ := map_b e
  clear e
  have e := e0
  clear e0
  unfold gLe at e
  split at e
  · cases e
    exact op_le pins s σ H x y v u Q I rx ry ⟨_, _, hx.int, hy.int, q.same sm (.bl _)⟩
  · split at e
    case isFalse => cases e
    case isTrue h =>
      cases e
      obtain ⟨h1, h2, h3, h4, h5⟩ := cmp_room h hu
      obtain ⟨as, r1⟩ := Dp.reads I _ x v (hx.dp sm h3) rx
      obtain ⟨bs, r2⟩ := Dp.reads I _ y u (hy.dp sm h4) ry
      exact PySem.W.le_data r1 r2 h1 h2 h5 ⟨.bl _, H, I, rfl, q.same sm (.bl _)⟩
theorem oGe (hu : X.A.units + 64 < cLine) : OpR X (compareOp .GtE) (rG X.kw (gB gGe)) := by
  intro pins s σ H x y v u Q I rx ry ⟨F, dx, dy, res, sm, hx, hy, e, q⟩
  obtain ⟨k, e0, rfl⟩ := map_b e
  clear e
  have e := e0
  clear e0
  unfold gGe at e
  split at e
  · cases e
    exact op_ge pins s σ H x y v u Q I rx ry ⟨_, _, hx.int, hy.int, q.same sm (.bl _)⟩
  · split at e
    case isFalse => cases e
    case isTrue h =>
      cases e
      obtain ⟨h1, h2, h3, h4, h5⟩ := cmp_room h hu
      obtain ⟨as, r1⟩ := Dp.reads I _ x v (hx.dp sm h3) rx
      obtain ⟨bs, r2⟩ := Dp.reads I _ y u (hy.dp sm h4) ry
      exact PySem.W.ge_data r1 r2 h1 h2 h5 ⟨.bl _, H, I, rfl, q.same sm (.bl _)⟩
end
end DL
namespace DL
open PySem PySem.Spec PyProof.Rows L2
/-! ### dicts with tuple keys -/
mutual
def nkOf : D → Option NK
  | .none => some .none
  | .int i => some (.num i)
  | .str x => some (.text x)
  | .tuple ds => (nkOfA ds).map .tup
  | _ => none
def nkOfA : List D → Option (List NK)
  | [] => some []
  | d :: ds => match nkOf d, nkOfA ds with
    | some k, some ks => some (k :: ks)
    | _, _ => none
end
mutual
theorem nkOf_kN : ∀ k : NK, nkOf (kN k) = some k
  | .none => by simp only [NestedKey.data, nkOf]
  | .num i => by simp only [NestedKey.data, nkOf]
  | .text x => by simp only [NestedKey.data, nkOf]
  | .tup ks => by simp only [NestedKey.data, nkOf, nkOfA_kN ks, Option.map_some]
theorem nkOfA_kN : ∀ ks : List NK, nkOfA (NestedKey.datas ks) = some ks
  | [] => by simp only [NestedKey.datas, nkOfA]
  | k :: ks => by simp only [NestedKey.datas, nkOfA, nkOf_kN k, nkOfA_kN ks]
end
mutual
theorem nkOf_some : ∀ {d : D} {k : NK}, nkOf d = some k → d = kN k
  | .none, k, h => by simp only [nkOf, Option.some.injEq] at h; subst h; simp only [NestedKey.data]
  | .int i, k, h => by simp only [nkOf, Option.some.injEq] at h; subst h; simp only [NestedKey.data]
  | .str x, k, h => by simp only [nkOf, Option.some.injEq] at h; subst h; simp only [NestedKey.data]
  | .tuple ds, k, h => by
    simp only [nkOf] at h
    cases e : nkOfA ds with
    | none => rw [e] at h; cases h
    | some ks => rw [e] at h; cases h; simp only [NestedKey.data, nkOfA_some e]
  | .bool _, k, h => by simp only [nkOf] at h; cases h
  | .list _, k, h => by simp only [nkOf] at h; cases h
  | .dict _, k, h => by simp only [nkOf] at h; cases h
theorem nkOfA_some : ∀ {ds : List D} {ks : List NK}, nkOfA ds = some ks → ds = NestedKey.datas ks
  | [], ks, h => by simp only [nkOfA, Option.some.injEq] at h; subst h; simp only [NestedKey.datas]
  | d :: ds, ks, h => by
    simp only [nkOfA] at h
    cases e1 : nkOf d with
    | none => simp only [e1] at h; cases h
    | some k =>
      cases e2 : nkOfA ds with
      | none => simp only [e1, e2] at h; cases h
      | some ks' =>
        simp only [e1, e2, Option.some.injEq] at h
        subst h
        simp only [NestedKey.datas, ← nkOf_some e1, ← nkOfA_some e2]
end
/-- the key that a tuple is -/
def tkOf (d : D) : Option NK := match d with
  | .tuple ds => match nkOf (.tuple ds) with
    | some k => if k.depth ≤ 8 then some k else none
    | none => none
  | _ => none
theorem tkOf_some {d : D} {k : NK} (h : tkOf d = some k) : d = kN k ∧ k.depth ≤ 8 ∧ ∃ ds, d = .tuple ds := by
  unfold tkOf at h
  split at h
  · rename_i ds
    split at h
    · rename_i k' e
      split at h
      · rename_i hd
        cases h
        exact ⟨nkOf_some e, hd, _, rfl⟩
      · cases h
    · cases h
  · cases h
def dgetT (k : NK) : List (D × D) → Option D
  | [] => none
  | p :: r => if nkOf p.1 = some k then some p.2 else dgetT k r
def dhasT (k : NK) (ds : List (D × D)) : Bool := ds.any fun p => decide (nkOf p.1 = some k)
def dputT (k : NK) (d : D) (ds : List (D × D)) : List (D × D) := if dhasT k ds = true then ds.map fun p => if nkOf p.1 = some k then (p.1, d) else p else ds ++ [(kN k, d)]
abbrev XS := List (NK × Addr × V)
def valX (xs : XS) (k : NK) : Option V := (xs.find? fun x => decide (x.1 = k)).map fun x => x.2.2
def putX (xs : XS) (k : NK) (b : Addr) (v : V) : XS := if (xs.any fun x => decide (x.1 = k)) = true then xs.map fun x => if x.1 = k then (x.1, x.2.1, v) else x else xs ++ [(k, b, v)]
section
variable {K : KW} {F F' H H' : Hp}
theorem zipT_get {k : NK} : ∀ {xs : XS} {es : List D}, RpA K F (xs.map fun x => x.2.2) es → (∀ d, dgetT k (List.zip ((xs.map (·.1)).map kN) es) = some d → ∃ v, valX xs k = some v ∧ Rp K F v d) ∧ (dgetT k (List.zip ((xs.map (·.1)).map kN) es) = none → valX xs k = none)
  | [], _, .nil => ⟨fun d e => (nomatch e), fun _ => rfl⟩
  | x :: xs, _, .cons (d := d0) (ds := es) h t => by
    obtain ⟨h1, h2⟩ := zipT_get (k := k) t
    rw [List.map_cons, List.map_cons, List.zip_cons_cons]
    unfold dgetT valX
    rw [nkOf_kN, List.find?_cons]
    by_cases e : x.1 = k
    · subst e
      rw [if_pos rfl]
      simp only [decide_true, Option.map_some]
      exact ⟨fun d q => by cases q; exact ⟨_, rfl, h⟩, fun q => by cases q⟩
    · rw [if_neg (fun z => e (Option.some.inj z))]
      simp only [decide_eq_false e]
      exact ⟨h1, h2⟩
theorem tag_get {k : NK} {ks : List NK} {xs : XS} {es : List D} (hk : k = .tup ks) (h : RpA K F (xs.map fun x => x.2.2) es) : (∀ d, dgetT k (tagT (xs.map (·.1)) es) = some d → ∃ v, valX xs k = some v ∧ Rp K F v d) ∧ (dgetT k (tagT (xs.map (·.1)) es) = none → valX xs k = none) := by
  have e : dgetT k (tagT (xs.map (·.1)) es) = dgetT k (List.zip ((xs.map (·.1)).map kN) es) := by
    subst hk
    show (if nkOf .none = some (NestedKey.tup ks) then _ else _) = _
    rw [if_neg (by simp only [nkOf]; intro z; cases z)]
  rw [e]; exact zipT_get h
theorem zipT_has {k : NK} : ∀ {xs : XS} {es : List D}, RpA K F (xs.map fun x => x.2.2) es → dhasT k (List.zip ((xs.map (·.1)).map kN) es) = xs.any fun x => decide (x.1 = k)
  | [], _, .nil => rfl
  | x :: xs, _, .cons h t => by
    have ih := zipT_has (k := k) t
    unfold dhasT at ih ⊢
    rw [List.map_cons, List.map_cons, List.zip_cons_cons, List.any_cons, List.any_cons, ih, nkOf_kN]
    congr 1
    exact decide_eq_decide.mpr ⟨fun z => Option.some.inj z, fun z => by rw [z]⟩
theorem tag_has {k : NK} {ks : List NK} {xs : XS} {es : List D} (hk : k = .tup ks) (h : RpA K F (xs.map fun x => x.2.2) es) : dhasT k (tagT (xs.map (·.1)) es) = xs.any fun x => decide (x.1 = k) := by
  rw [← zipT_has h]
  subst hk
  show (decide (nkOf .none = some (NestedKey.tup ks)) || _) = _
  rw [decide_eq_false (by simp only [nkOf]; intro z; cases z), Bool.false_or]; rfl
theorem zipT_map {k : NK} {v : V} {d : D} (r : Rp K F v d) : ∀ {xs : XS} {es : List D}, RpA K F (xs.map fun x => x.2.2) es → ∃ es', RpA K F ((xs.map fun x => if x.1 = k then (x.1, x.2.1, v) else x).map fun x => x.2.2) es' ∧ ((List.zip ((xs.map (·.1)).map kN) es).map fun p => if nkOf p.1 = some k then (p.1, d) else p) = List.zip ((xs.map (·.1)).map kN) es'
  | [], _, .nil => ⟨[], .nil, rfl⟩
  | x :: xs, _, .cons (d := d0) (ds := es) h t => by
    obtain ⟨es', h1, h2⟩ := zipT_map r t
    rw [List.map_cons, List.map_cons, List.map_cons, List.map_cons, List.zip_cons_cons, List.map_cons, h2, nkOf_kN]
    by_cases e : x.1 = k
    · rw [if_pos e, if_pos (by rw [e])]
      exact ⟨d :: es', .cons r h1, rfl⟩
    · rw [if_neg e, if_neg (fun z => e (Option.some.inj z))]
      exact ⟨d0 :: es', .cons h h1, rfl⟩
theorem map_fix (xs : XS) (k : NK) (v : V) : ((xs.map fun x => if x.1 = k then (x.1, x.2.1, v) else x).map fun x => x.1) = xs.map (·.1) ∧ ((xs.map fun x => if x.1 = k then (x.1, x.2.1, v) else x).map fun x => V.ref x.2.1) = xs.map fun x => V.ref x.2.1 := by
  constructor <;> rw [List.map_map] <;> exact List.map_congr_left fun x _ => by simp only [Function.comp]; split <;> rfl
/-- storing at a key -/
theorem tag_put {k : NK} {ks : List NK} {b : Addr} {v : V} {d : D} {xs : XS} {es : List D} (hk : k = .tup ks) (rb : Rp K F (.ref b) (kN k)) (r : Rp K F v d) (h0 : RpA K F (xs.map fun x => V.ref x.2.1) (xs.map fun x => kN x.1)) (h : RpA K F (xs.map fun x => x.2.2) es) :
    ∃ es', RpA K F ((putX xs k b v).map fun x => V.ref x.2.1) ((putX xs k b v).map fun x => kN x.1) ∧ RpA K F ((putX xs k b v).map fun x => x.2.2) es' ∧ dputT k d (tagT (xs.map (·.1)) es) = tagT ((putX xs k b v).map (·.1)) es' := by
  have hn : nkOf .none ≠ some k := by subst hk; simp only [nkOf]; intro z; cases z
  unfold dputT putX
  rw [tag_has hk h]
  split
  · obtain ⟨es', h1, h2⟩ := zipT_map (k := k) r h
    obtain ⟨f1, f2⟩ := map_fix xs k v
    refine ⟨es', ?_, h1, ?_⟩
    · rw [f2, show ((xs.map fun x => if x.1 = k then (x.1, x.2.1, v) else x).map fun x => kN x.1) = xs.map fun x => kN x.1 by rw [show (fun x : NK × Addr × V => kN x.1) = kN ∘ (fun x => x.1) from rfl, ← List.map_map, f1, List.map_map]]
      exact h0
    · rw [f1]
      unfold tagT
      rw [List.map_cons, if_neg hn, h2]
  · refine ⟨es ++ [d], ?_, ?_, ?_⟩
    · rw [List.map_append, List.map_append]; exact h0.app (.one rb)
    · rw [List.map_append]; exact h.app (.one r)
    · have hl : ((xs.map (·.1)).map kN).length = es.length := by rw [List.length_map, List.length_map, ← h.length, List.length_map]
      unfold tagT
      rw [List.map_append, List.map_append, List.zip_append hl]; rfl
section
variable {X : Cx} {pins : List (Addr × Obj)} {σ : SS} {s : Shared}
mutual
theorem nested_is (I : Inv X pins σ H s) (sm : Same F H) : ∀ (k : NK) (v : V) (u : Value), Rp X.kw F v (kN k) → RelV v u → NestedIs s.heap k u
  | .none, v, u, r, q => by
    simp only [NestedKey.data] at r
    cases r
    cases (show u = Value.none from q); exact .none
  | .num i, v, u, r, q => by
    simp only [NestedKey.data] at r
    cases r
    obtain ⟨t, e⟩ := (show ∃ t, u = Value.int i t from q); cases e; exact .int _ _
  | .text x, v, u, r, q => by
    simp only [NestedKey.data] at r
    cases r
    obtain ⟨t, e⟩ := (show ∃ t, u = Value.str x t from q); cases e; exact .text _ _
  | .tup ks, v, u, r, q => by
    simp only [NestedKey.data] at r
    cases r with
    | tup h r =>
      cases q
      obtain ⟨its, rv, ⟨o, ho, hc, n, hd⟩, _⟩ := I.tuple (tupD_mono sm h).sq
      exact .tup ho hc hd (nested_all I sm ks _ _ r (by simpa using rv))
theorem nested_all (I : Inv X pins σ H s) (sm : Same F H) : ∀ (ks : List NK) (vs : List V) (us : List Value), RpA X.kw F vs (NestedKey.datas ks) → Vals vs us → NestedAll s.heap ks us
  | [], vs, us, r, q => by
    simp only [NestedKey.datas] at r
    cases r; cases q; exact .nil
  | k :: ks, vs, us, r, q => by
    simp only [NestedKey.datas] at r
    cases r with
    | cons r1 r2 =>
      cases q with
      | cons q1 q2 => exact .cons (nested_is I sm k _ _ r1 q1) (nested_all I sm ks _ _ r2 q2)
end
/-- what kit rules for dicts with keys of a heap kind ask -/
theorem rawX_get {a : Addr} {xs : XS} (I : Inv X pins σ H s) (sm : Same F H) (hd : Rd H a (dX X.w a xs)) (hk : RpA X.kw F (xs.map fun x => V.ref x.2.1) (xs.map fun x => kN x.1)) :
    ∃ us : List (NK × Addr × Value), Paired (fun (p : NK × Addr × V) (q : NK × Addr × Value) => p.1 = q.1 ∧ p.2.1 = q.2.1 ∧ RelV p.2.2 q.2.2) xs us ∧ s.heap.DictOfH (nestedKind X.prog X.w) a us ∧ (a == sysModules) = false ∧ us.length ≤ sizeLine := by
  obtain ⟨⟨hz, h8, hs, us, pr, o, es, ep, h1, h2, h3, h4, h5⟩, _⟩ := hd.ok I.hok
  refine ⟨us, pr, ⟨o, es, ep, h1, h2, h3, h4, fun x hx => ?_, h5⟩, hs, by rw [← Paired.length pr]; exact hz⟩
  have key : ∀ {xs : XS} {us : List (NK × Addr × Value)}, Paired (fun (p : NK × Addr × V) (q : NK × Addr × Value) => p.1 = q.1 ∧ p.2.1 = q.2.1 ∧ RelV p.2.2 q.2.2) xs us → (∀ x ∈ xs, x.1.depth ≤ 8) → RpA X.kw F (xs.map fun x => V.ref x.2.1) (xs.map fun x => kN x.1) → ∀ x ∈ us, (nestedKind X.prog X.w).is s.heap x.1 x.2.1 := by
    intro xs us q
    induction q with
    | nil => intro _ _ x hx; simp at hx
    | @cons p q ps qs hq t ih =>
      intro h8 hk x hx
      cases hk with
      | cons k1 k2 =>
        rcases List.mem_cons.mp hx with e | hx
        · subst e
          have := nested_is I sm p.1 _ _ k1 (show RelV (V.ref p.2.1) (Value.ref p.2.1) from rfl)
          rw [hq.1, hq.2.1] at this
          exact ⟨this, by rw [← hq.1]; exact h8 p (by simp)⟩
        · exact ih (fun y hy => h8 y (by simp [hy])) k2 x hx
  exact key pr h8 hk x hx
theorem at_val {k : NK} : ∀ {xs : XS} {us : List (NK × Addr × Value)}, Paired (fun (p : NK × Addr × V) (q : NK × Addr × Value) => p.1 = q.1 ∧ p.2.1 = q.2.1 ∧ RelV p.2.2 q.2.2) xs us → RelO (valX xs k) ((atKey us k).map (·.2))
  | _, _, .nil => trivial
  | _, _, .cons (a := p) (b := q) h t => by
    unfold valX atKey
    rw [List.find?_cons, List.find?_cons, ← h.1]
    by_cases e : p.1 = k
    · simp only [decide_eq_true e, Option.map_some]; exact h.2.2
    · simp only [decide_eq_false e]; exact at_val t
theorem has_val {k : NK} {xs : XS} {us : List (NK × Addr × Value)} (q : Paired (fun (p : NK × Addr × V) (q : NK × Addr × Value) => p.1 = q.1 ∧ p.2.1 = q.2.1 ∧ RelV p.2.2 q.2.2) xs us) : (xs.any fun x => decide (x.1 = k)) = (atKey us k).isSome := by
  induction q with
  | nil => rfl
  | @cons p q ps qs h t ih =>
    unfold atKey at ih ⊢
    rw [List.any_cons, List.find?_cons, ← h.1, ih]
    by_cases e : p.1 = k
    · simp [e]
    · simp [e]
theorem store_val {k : NK} {b : Addr} {v : V} {u : Value} (rv : RelV v u) {xs : XS} {us : List (NK × Addr × Value)} (pr : Paired (fun (p : NK × Addr × V) (q : NK × Addr × Value) => p.1 = q.1 ∧ p.2.1 = q.2.1 ∧ RelV p.2.2 q.2.2) xs us) : Paired (fun (p : NK × Addr × V) (q : NK × Addr × Value) => p.1 = q.1 ∧ p.2.1 = q.2.1 ∧ RelV p.2.2 q.2.2) (putX xs k b v) (storedH us k b u) := by
  have hs := has_val (k := k) pr
  unfold putX storedH
  rw [hs]
  split
  · have : ∀ {xs : XS} {us : List (NK × Addr × Value)}, Paired (fun (p : NK × Addr × V) (q : NK × Addr × Value) => p.1 = q.1 ∧ p.2.1 = q.2.1 ∧ RelV p.2.2 q.2.2) xs us → Paired (fun (p : NK × Addr × V) (q : NK × Addr × Value) => p.1 = q.1 ∧ p.2.1 = q.2.1 ∧ RelV p.2.2 q.2.2) (xs.map fun x => if x.1 = k then (x.1, x.2.1, v) else x) (us.map (putAt k u)) := by
      intro xs us q
      induction q with
      | nil => exact .nil
      | @cons p q ps qs h t ih =>
        rw [List.map_cons, List.map_cons]
        unfold putAt at ih ⊢
        refine .cons ?_ ih
        rw [← h.1]
        by_cases e : p.1 = k
        · rw [if_pos e, if_pos e]; exact ⟨rfl, h.2.1, rv⟩
        · rw [if_neg e, if_neg e]; exact h
    exact this pr
  · exact Paired.snoc pr ⟨rfl, rfl, rv⟩
theorem putX_len (xs : XS) (k : NK) (b : Addr) (v : V) : (putX xs k b v).length ≤ xs.length + 1 := by
  unfold putX
  split
  · rw [List.length_map]; omega
  · simp
theorem putX_dep {xs : XS} {k : NK} {b : Addr} {v : V} (h : ∀ x ∈ xs, x.1.depth ≤ 8) (hk : k.depth ≤ 8) : ∀ x ∈ putX xs k b v, x.1.depth ≤ 8 := fun x hx => by
  unfold putX at hx
  split at hx
  · obtain ⟨y, hy, e⟩ := List.mem_map.mp hx
    rw [← e]
    split
    · exact h y hy
    · exact h y hy
  · rcases List.mem_append.mp hx with z | z
    · exact h x z
    · simp at z; subst z; exact hk
end
end
end DL
namespace DL
open PySem PySem.Spec PyProof.Rows L2
section
variable {K : KW} {F H F' H' : Hp} {σ σ' : SS} {ρ ρ' : List Sl}
/-! ### items -/
theorem rpA_atI {vs : List V} {ds : List D} {i : Int} {d : D} (h : RpA K F vs ds) (e : atI ds i = some d) : ∃ v, atI vs i = some v ∧ Rp K F v d := by
  unfold atI at e ⊢
  rw [h.length]
  cases q : ixN ds.length i with
  | none => rw [q] at e; cases e
  | some j =>
    rw [q] at e
    have e : ds[j]? = some d := e
    have hj : j < vs.length := by rw [h.length]; exact (List.getElem?_eq_some_iff.mp e).1
    exact ⟨vs[j], List.getElem?_eq_getElem hj, h.get (List.getElem?_eq_getElem hj) e⟩
def keyEq (k : Key) : D → Bool
  | .int j => match k with
    | .inl i => i == j
    | _ => false
  | .str y => match k with
    | .inr x => x == y
    | _ => false
  | _ => false
def dget (k : Key) : List (D × D) → Option D
  | [] => none
  | p :: r => if keyEq k p.1 then some p.2 else dget k r
def dput (k : Key) (d : D) (kvs : List (D × D)) : List (D × D) :=
  if (kvs.any fun p => keyEq k p.1) = true then kvs.map (fun p => if keyEq k p.1 then (p.1, d) else p) else kvs ++ [(kD k, d)]
def keyOf : D → Option Key
  | .int i => some (.inl i)
  | .str x => some (.inr x)
  | _ => none
theorem keyEq_kD (k j : Key) : keyEq k (kD j) = decide (j = k) := by
  cases k with
  | inl i =>
    cases j with
    | inl m =>
      show (i == m) = _
      by_cases h : i = m
      · subst h; simp
      · rw [decide_eq_false (fun z => h (Sum.inl.inj z).symm)]; simpa using h
    | inr y => rfl
  | inr x =>
    cases j with
    | inl m => rfl
    | inr y =>
      show (x == y) = _
      by_cases h : x = y
      · subst h; simp
      · rw [decide_eq_false (fun z => h (Sum.inr.inj z).symm)]; simpa using h
theorem dgetR {H : Hp} {a : Addr} {kvs : List (Key × V)} {k : Key} (e : Rd H a (.dK kvs)) : DGet H a (kV k) (valV kvs k) := .inl ⟨kvs, k, e, rfl, rfl⟩
theorem keyOf_some {d : D} {k : Key} (h : keyOf d = some k) : d = kD k := by
  cases d with
  | int i => cases h; rfl
  | str x => cases h; rfl
  | _ => cases h
theorem Vw.key {v : V} {d : D} {k : Key} (h : Vw K F H v d) (e : keyOf d = some k) : v = kV k := by
  have := keyOf_some e
  subst this
  cases k with
  | inl i => exact h.int
  | inr x => exact h.str
theorem rpK_get {k : Key} : ∀ {kvs : List (Key × V)} {ds : List (D × D)}, RpK K F kvs ds → (∀ d, dget k ds = some d → ∃ v, valV kvs k = some v ∧ Rp K F v d) ∧ (dget k ds = none → valV kvs k = none)
  | _, _, .nil => ⟨fun d (e : none = some d) => (nomatch e), fun _ => rfl⟩
  | _, _, .cons (k := j) (v := v) (d := d) h t => by
    obtain ⟨h1, h2⟩ := rpK_get t
    unfold dget
    simp only [keyEq_kD]
    by_cases e : j = k
    · simp only [decide_eq_true e, if_true]
      exact ⟨fun d' e' => by cases e'; exact ⟨v, valV_pos e, h⟩, fun e' => by cases e'⟩
    · simp only [decide_eq_false e]
      rw [valV_neg (p := (j, v)) e]
      exact ⟨h1, h2⟩
theorem rpK_any {k : Key} : ∀ {kvs : List (Key × V)} {ds : List (D × D)}, RpK K F kvs ds → (kvs.any fun kv => decide (kv.1 = k)) = ds.any fun p => keyEq k p.1
  | _, _, .nil => rfl
  | _, _, .cons h t => by rw [List.any_cons, List.any_cons, rpK_any t, keyEq_kD]
theorem rpK_map {k : Key} {v : V} {d : D} (r : Rp K F v d) : ∀ {kvs : List (Key × V)} {ds : List (D × D)}, RpK K F kvs ds → RpK K F (kvs.map fun kv => if kv.1 = k then (kv.1, v) else kv) (ds.map fun p => if keyEq k p.1 then (p.1, d) else p)
  | _, _, .nil => .nil
  | _, _, .cons (k := j) h t => by
    rw [List.map_cons, List.map_cons]
    simp only [keyEq_kD]
    by_cases e : j = k
    · simp only [e, if_true, decide_true]; exact .cons r (rpK_map r t)
    · simp only [decide_eq_false e, if_neg e]; exact .cons h (rpK_map r t)
theorem RpK.snoc {k : Key} {v : V} {d : D} (r : Rp K F v d) : ∀ {kvs : List (Key × V)} {ds : List (D × D)}, RpK K F kvs ds → RpK K F (kvs ++ [(k, v)]) (ds ++ [(kD k, d)])
  | _, _, .nil => .cons r .nil
  | _, _, .cons h t => .cons h (RpK.snoc r t)
theorem rpK_put {kvs : List (Key × V)} {ds : List (D × D)} {k : Key} {v : V} {d : D} (h : RpK K F kvs ds) (r : Rp K F v d) : RpK K F (putK kvs k v) (dput k d ds) := by
  unfold putK dput
  rw [rpK_any h]
  split
  · exact rpK_map r h
  · exact h.snoc r
def cutD (ds : List D) (lo hi : Option Int) : List D := (ds.drop (HT.sIx ds.length 0 lo)).take (HT.sIx ds.length ds.length hi - HT.sIx ds.length 0 lo)
theorem rpA_cut {vs : List V} {ds : List D} (h : RpA K F vs ds) (lo hi : Option Int) : RpA K F (cutV vs lo hi) (cutD ds lo hi) := by
  unfold cutV cutD
  rw [h.length]
  exact (h.drop _).take _
def gIx : G2
  | .list ds, .int i => (atI ds i).map .fz
  | .tuple ds, .int i => (atI ds i).map .fz
  | .str z, .int i => if z.length ≤ sizeLine then (atI z.cps.toList i).map fun c => .fz (.str ⟨#[c]⟩) else none
  | .dict kvs, k => if isK kvs = true then (keyOf k).bind fun k => (dget k kvs).map .fz else (tkOf k).bind fun k => (dgetT k kvs).map .fz
  | _, _ => none
def gSl (d : D) (lo hi : Option Int) : Option Rs := match d with
  | .list ds => some (.ow (.list (cutD ds lo hi)))
  | .tuple ds => some (.fz (.tuple (cutD ds lo hi)))
  | .str z => if z.length ≤ sizeLine then some (.fz (.str (cutS z lo hi))) else none
  | _ => none
section
variable {X : Cx}
theorem opt_bind {α β : Type} {o : Option α} {f : α → Option β} {b : β} (e : o.bind f = some b) : ∃ a, o = some a ∧ f a = some b := by
  cases o with
  | none => cases e
  | some a => exact ⟨a, rfl, e⟩
theorem opt_map {α β : Type} {o : Option α} {f : α → β} {b : β} (e : o.map f = some b) : ∃ a, o = some a ∧ f a = b := by
  cases o with
  | none => cases e
  | some a => cases e; exact ⟨a, rfl, rfl⟩
theorem nk_room {A : Around} (hu : A.units + 9 < cLine) : A.in1.units + 8 < cLine := by
  have : A.in1.units = A.units + 1 := rfl
  omega
/-- the key tuple is a key -/
theorem Vw.tkey {pins : List (Addr × Obj)} {σ : SS} {F H : Hp} {s : Shared} {v : V} {u : Value} {d : D} {k : NK} (I : Inv X pins σ H s) (sm : Same F H) (h : Vw X.kw F H v d) (e : tkOf d = some k) (r : RelV v u) : ∃ (b : Addr) (ks : List NK), u = .ref b ∧ v = .ref b ∧ k = .tup ks ∧ Rp X.kw F (.ref b) (kN k) ∧ (nestedKind X.prog X.w).is s.heap k b ∧ k.depth ≤ 8 := by
  obtain ⟨e1, e2, ds, e3⟩ := tkOf_some e
  have hr : Rp X.kw F v d := by subst e3; exact h.rp (by intro _ z; cases z) (by intro _ z; cases z)
  rw [e1] at hr
  have hk : ∃ ks, k = .tup ks := by
    rw [e3] at e1
    cases k with
    | tup ks => exact ⟨ks, rfl⟩
    | _ => simp only [NestedKey.data] at e1; cases e1
  obtain ⟨ks, rfl⟩ := hk
  have hn := nested_is I sm (.tup ks) v u hr r
  have hv : ∃ b, v = .ref b := by
    have hr2 := hr
    simp only [NestedKey.data] at hr2
    cases hr2; exact ⟨_, rfl⟩
  obtain ⟨b, rfl⟩ := hv
  cases r
  exact ⟨b, ks, rfl, rfl, rfl, hr, ⟨hn, e2⟩, e2⟩
theorem oIx (hu : X.A.units + 9 < cLine) : IxR X (rG X.kw gIx) := by
  intro value slice pins s σ H x y v u Q I rx ry ⟨F, dx, dy, res, sm, hx, hy, e, q⟩ hs
  unfold gIx at e
  split at e
  · obtain ⟨d, e1, rfl⟩ := opt_map e
    obtain ⟨a, vs, ev, h1, r1⟩ := hx.list sm
    obtain ⟨z, e2, rz⟩ := rpA_atI r1 e1
    exact ix_list value slice pins s σ H x y v u Q I rx ry ⟨a, vs, _, z, ev, hy.int, .inl h1, e2, q.same sm rz⟩ hs
  · obtain ⟨d, e1, rfl⟩ := opt_map e
    obtain ⟨a, vs, ev, h1, r1⟩ := hx.tuple sm
    obtain ⟨z, e2, rz⟩ := rpA_atI r1 e1
    exact ix_tup value slice pins s σ H x y v u Q I rx ry ⟨a, vs, _, z, ev, hy.int, h1, e2, q.same sm rz⟩ hs
  · split at e
    case isFalse => cases e
    case isTrue hz =>
      obtain ⟨c, e1, rfl⟩ := opt_map e
      exact ix_str value slice pins s σ H x y v u Q I rx ry ⟨_, _, c, hx.str, hy.int, hz, e1, q.same sm (.str _)⟩ hs
  · split at e
    case isTrue hkk =>
      cases ek : keyOf dy with
      | none => rw [ek] at e; cases e
      | some k =>
        rw [ek] at e
        obtain ⟨d, e1, rfl⟩ := opt_map e
        obtain ⟨a, kvs, rfl, h1, r1⟩ := hx.dict sm hkk
        obtain ⟨z, e2, rz⟩ := (rpK_get r1).1 d e1
        have hk := hy.key ek
        subst hk
        cases rx
        have g : DGet H a (kV k) (some z) := e2 ▸ dgetR h1
        exact tail_any (dict_typeIs I g) PySem.F.slot_dict_getitem.lookup (d_getItem (by omega) I g ry fun w' s3 I3 rw' => ⟨z, H, I3, rw', q.same sm rz⟩) hs
    case isFalse hkk =>
      obtain ⟨k, ek, e⟩ := opt_bind e
      obtain ⟨d, e1, rfl⟩ := opt_map e
      obtain ⟨a, xs, es, rfl, h1, r0, r1, rfl⟩ := hx.tdict sm (by simpa using hkk)
      obtain ⟨b, ks, rfl, rfl, hk, rb, his, _⟩ := hy.tkey I sm ek ry
      obtain ⟨z, e2, rz⟩ := (tag_get hk r1).1 d e1
      cases rx
      obtain ⟨us, pr, dd, _, _⟩ := rawX_get I sm h1 r0
      have ra := at_val (k := k) pr
      rw [e2] at ra
      obtain ⟨p, hp, hp2⟩ : ∃ p, atKey us k = some p ∧ RelV z p.2 := by
        cases hq : atKey us k with
        | none => rw [hq] at ra; exact ra.elim
        | some p => rw [hq] at ra; exact ⟨p, rfl, ra⟩
      exact tail_any dd.typeIs PySem.F.slot_dict_getitem.lookup (wpAny_getItem_heap (knd := nestedKind X.prog X.w) (nk_room (by omega)) his dd hp ⟨z, H, I.tok _, hp2, q.same sm rz⟩) hs
  · cases e
def rSlAD (K : KW) : V → Option Int → Option Int → Hp → VK → Prop := fun x lo hi H Q => ∃ a xs, x = .ref a ∧ SqT K H a xs ∧
  (HT.sIx xs.length 0 lo = 0 ∧ HT.sIx xs.length xs.length hi = xs.length → Q (.ref a) H) ∧ (¬ (HT.sIx xs.length 0 lo = 0 ∧ HT.sIx xs.length xs.length hi = xs.length) → ∀ p ob, H p = none → ob.dict = none → Q (.ref p) (upd H p (.frz ob (.tup (cutV xs lo hi)))))
theorem sl_tupAD : SlR X (rSlAD X.kw) := by
  intro pins s σ H x v vl vu lo hi sl Q I rx hs pl pu h
  obtain ⟨a, xs, rfl, hx, q1, q2⟩ := h
  cases rx
  obtain ⟨its, r, ht, hz⟩ := I.tuple hx
  have hlen : its.toArray.size = xs.length := by rw [List.size_toArray]; exact r.length.symm
  refine ⟨"tuple", _, PyProof.Rows.slot_tuple_getitem.lookup, ht.typeIs, ?_⟩
  by_cases hw : HT.sIx xs.length 0 lo = 0 ∧ HT.sIx xs.length xs.length hi = xs.length
  · exact getItem_tuple_whole ht hs pl pu (by rw [hlen]; exact hw) ⟨.ref a, H, I, rfl, q1 hw⟩
  · refine HT.getItem_tuple_cut ht hs pl pu (by rw [hlen]; exact hw) ?_ (by rw [hlen]; exact hz)
    rw [hlen]
    refine ⟨.ref s.heap.objs.size, _, I.laid (t' := s.toks) (o := .frz _ (.tup (cutV xs lo hi))) (fun b ob q => Heap.get?_push_of_some _ q) (Nat.le_refl _) ⟨Heap.get?_push_size _ rfl, ?_⟩, rfl, q2 hw _ _ (I.hok.fresh (Nat.le_refl _)) rfl⟩
    exact ⟨Nat.le_trans (cutV_length xs lo hi) hz, _, (r.drop (HT.sIx xs.length 0 lo)).take (HT.sIx xs.length xs.length hi - HT.sIx xs.length 0 lo), IsTup.new _ _⟩
theorem oSl : SlR X (fun x lo hi H Q => ∃ F dx res, Same F H ∧ Vw X.kw F H x dx ∧ gSl dx lo hi = some res ∧ NewR X.kw F H res Q) := by
  intro pins s σ H x v vl vu lo hi sl Q I rx hs pl pu ⟨F, dx, res, sm, hx, e, q⟩
  unfold gSl at e
  split at e
  · cases e
    obtain ⟨a, vs, ev, h1, r1⟩ := hx.list sm
    exact sl_list pins s σ H x v vl vu lo hi sl Q I rx hs pl pu ⟨a, vs, ev, .inl h1, fun p hp => q.lst sm (rpA_cut r1 lo hi) hp⟩
  · cases e
    obtain ⟨a, vs, ev, h1, r1⟩ := hx.tuple sm
    refine sl_tupAD pins s σ H x v vl vu lo hi sl Q I rx hs pl pu ⟨a, vs, ev, h1, fun z => ?_, fun _ p ob hp hd => q.tup sm (rpA_cut r1 lo hi) hp hd⟩
    have hp := hx.rp (by intro _ z; cases z) (by intro _ z; cases z)
    subst ev
    refine q.same sm ?_
    rename_i ds
    have : cutD ds lo hi = ds := by
      unfold cutD
      rw [← r1.length, z.1, z.2, List.drop_zero, Nat.sub_zero, r1.length, List.take_length]
    rw [this]; exact hp
  · split at e
    case isFalse => cases e
    case isTrue hz =>
      cases e
      exact sl_str pins s σ H x v vl vu lo hi sl Q I rx hs pl pu ⟨_, hx.str, hz, q.same sm (.str _)⟩
  · cases e
end
theorem sem_ix {g : G2} {fa fb : M Rs} : ∀ σ H Q, tSem K (dOp2 g fa fb) σ H Q → tOp (rG K g) (tSem K fa) (tSem K fb) σ H Q := sem_op2 op2G
/-- a part of a slice -/
def tSemO (K : KW) (f : M (Option Int)) : TO := fun σ H Q => ∃ F ρ r ρ', Sta K F H σ ρ ∧ f ρ = .ok r ρ' ∧ ∀ F' H', Ext K F H σ ρ F' H' σ ρ' → Q r H'
def dNoP : M (Option Int) := pr none
def dPart (f : M Rs) : M (Option Int) := bd f fun r => bd (look r) fun d => opt (match d with
  | .int i => some (some i)
  | _ => none)
theorem poWeak {X : Cx} {e : Option Expr} {t t' : TO} (h : PO X e t) (w : ∀ σ H Q, t' σ H Q → t σ H Q) : PO X e t' :=
  ⟨fun pins s σ H Q I q => h.run pins s σ H Q I (w σ H Q q)⟩
def dSl (fa : M Rs) (fl fh : M (Option Int)) : M Rs := bd fa fun ra => bd fl fun l => bd fh fun h => bd (look ra) fun d => opt (gSl d l h)
theorem sem_sl {fa : M Rs} {fl fh : M (Option Int)} : ∀ σ H Q, tSem K (dSl fa fl fh) σ H Q → tSl (fun x lo hi H Q => ∃ F dx res, Same F H ∧ Vw K F H x dx ∧ gSl dx lo hi = some res ∧ NewR K F H res Q) (tSem K fa) (tSemO K fl) (tSemO K fh) σ H Q := fun σ H Q ⟨F, ρ, res, ρ', s, e, k⟩ => by
  obtain ⟨ra, ρ1, e1, e⟩ := bd_ok e
  obtain ⟨l, ρ2, e2, e⟩ := bd_ok e
  obtain ⟨h, ρ3, e3, e⟩ := bd_ok e
  obtain ⟨d, ρ4, e4, e⟩ := bd_ok e
  obtain ⟨eg, e5⟩ := opt_ok e
  refine ⟨F, ρ, ra, ρ1, s, e1, fun F1 H1 x x1 r1 => ⟨F1, ρ1, l, ρ2, x1.st, e2, fun F2 H2 x2 => ⟨F2, ρ2, h, ρ3, x2.st, e3, fun F3 H3 x3 => ?_⟩⟩⟩
  have x23 := x2.trans x3
  obtain ⟨e4', w⟩ := look_ok x3.st (r1.ext x23) e4
  subst e4'; subst e5
  refine ⟨F3, d, res, x3.st.le, w, eg, fun F4 H4 v g hr => ?_⟩
  have y := x1.trans x23
  exact k F4 H4 v (y.trans (x3.st.grow g)) (x3.st.res g hr fun a z => y.back z)
section
variable {X : Cx} {a b : Expr} {fa fb : M Rs} {lo hi : Option Expr} {fl fh : M (Option Int)} {pos p2 : Pos}
theorem eix (hu : X.A.units + 9 < cLine) (ha : PE X a (tSem X.kw fa)) (hb : PE X b (tSem X.kw fb)) (hs : PlainIx b := by exact fun _ _ => rfl) : PE X (.Subscript a b pos) (tSem X.kw (dOp2 gIx fa fb)) := peWeak (pe_ix (oIx hu) ha hb hs) sem_ix
theorem pn : PO X none (tSemO X.kw dNoP) := poWeak po_none fun σ H Q ⟨F, ρ, r, ρ', s, e, k⟩ => by cases e; exact k F H (Ext.refl s)
theorem pp (h : PE X a (tSem X.kw fa)) : PO X (some a) (tSemO X.kw (dPart fa)) := poWeak (po_some h) fun σ H Q ⟨F, ρ, r, ρ', s, e, k⟩ => by
  obtain ⟨ra, ρ1, e1, e⟩ := bd_ok e
  obtain ⟨d, ρ4, e4, e⟩ := bd_ok e
  obtain ⟨eg, e5⟩ := opt_ok e
  refine ⟨F, ρ, ra, ρ1, s, e1, fun F1 H1 x x1 r1 => ?_⟩
  obtain ⟨e4', w⟩ := look_ok x1.st r1 e4
  subst e4'; subst e5
  split at eg
  · cases eg; exact ⟨_, w.int, k F1 H1 x1⟩
  · cases eg
theorem esl (ha : PE X a (tSem X.kw fa)) (hl : PO X lo (tSemO X.kw fl)) (hh : PO X hi (tSemO X.kw fh)) : PE X (.Subscript a (.Slice lo hi none p2) pos) (tSem X.kw (dSl fa fl fh)) := peWeak (pe_slice oSl ha hl hh) sem_sl
end
/-! ### calls of built-ins -/
def gLen : List D → Option Rs
  | [.list ds] => some (.fz (.int ds.length))
  | [.tuple ds] => some (.fz (.int ds.length))
  | [.str z] => if z.length ≤ sizeLine then some (.fz (.int z.length)) else none
  | [.dict kvs] => some (.fz (.int (if isK kvs = true then kvs.length else kvs.length - 1 : Nat)))
  | _ => none
def gAbs : List D → Option Rs
  | [.int i] => some (.fz (.int (if i < 0 then -i else i)))
  | _ => none
def gInt : List D → Option Rs
  | [.int i] => some (.fz (.int i))
  | [.bool k] => some (.fz (.int (if k then 1 else 0)))
  | [.str a] => if a.length ≤ 640 then (intText? a).map fun n => .fz (.int n) else none
  | _ => none
def gTuple : List D → Option Rs
  | [.list ds] => some (.fz (.tuple ds))
  | [.tuple ds] => some (.fz (.tuple ds))
  | _ => none
def gList : List D → Option Rs
  | [.list ds] => some (.ow (.list ds))
  | [.tuple ds] => some (.ow (.list ds))
  | _ => none
def intsOf : List D → Option (List Int)
  | [] => some []
  | .int i :: ds => (intsOf ds).map fun ns => i :: ns
  | _ :: _ => none
def boolsOf : List D → Option (List Bool)
  | [] => some []
  | .bool i :: ds => (boolsOf ds).map fun ns => i :: ns
  | _ :: _ => none
theorem intsOf_ok : ∀ {ds : List D} {ns : List Int}, intsOf ds = some ns → ds = ns.map .int
  | [], ns, h => by cases h; rfl
  | d :: ds, ns, h => by
    cases d with
    | int i =>
      obtain ⟨ms, e, rfl⟩ := opt_map (show (intsOf ds).map (fun ns => i :: ns) = some ns from h)
      rw [List.map_cons, intsOf_ok e]
    | _ => cases h
theorem boolsOf_ok : ∀ {ds : List D} {ns : List Bool}, boolsOf ds = some ns → ds = ns.map .bool
  | [], ns, h => by cases h; rfl
  | d :: ds, ns, h => by
    cases d with
    | bool i =>
      obtain ⟨ms, e, rfl⟩ := opt_map (show (boolsOf ds).map (fun ns => i :: ns) = some ns from h)
      rw [List.map_cons, boolsOf_ok e]
    | _ => cases h
theorem intsOf_map : ∀ ns : List Int, intsOf (ns.map .int) = some ns
  | [] => rfl
  | n :: ns => by rw [List.map_cons]; show (intsOf (ns.map .int)).map _ = _; rw [intsOf_map ns]; rfl
theorem boolsOf_map : ∀ ns : List Bool, boolsOf (ns.map .bool) = some ns
  | [] => rfl
  | n :: ns => by rw [List.map_cons]; show (boolsOf (ns.map .bool)).map _ = _; rw [boolsOf_map ns]; rfl
def maxL : List Int → Int
  | [] => 0
  | [a] => a
  | a :: b :: r => max a (maxL (b :: r))
def minL : List Int → Int
  | [] => 0
  | [a] => a
  | a :: b :: r => min a (minL (b :: r))
theorem minL_spec : ∀ {ns : List Int}, ns ≠ [] → minL ns ∈ ns ∧ ∀ y ∈ ns, minL ns ≤ y
  | [], h => absurd rfl h
  | [a], _ => by simp [minL]
  | a :: b :: r, _ => by
    obtain ⟨h1, h2⟩ := minL_spec (ns := b :: r) (by simp)
    unfold minL
    refine ⟨?_, fun y hy => ?_⟩
    · rcases Int.le_total a (minL (b :: r)) with z | z
      · rw [Int.min_eq_left z]; exact List.mem_cons_self
      · rw [Int.min_eq_right z]; exact List.mem_cons_of_mem _ h1
    · rcases List.mem_cons.mp hy with z | z
      · rw [z]; exact Int.min_le_left _ _
      · exact Int.le_trans (Int.min_le_right _ _) (h2 y z)
def gMax : List D → Option Rs
  | [.int i, .int j] => some (.fz (.int (if j > i then j else i)))
  | [.list ds] => (intsOf ds).bind fun ns => if ns = [] then none else some (.fz (.int (maxL ns)))
  | _ => none
def gMin : List D → Option Rs
  | [.int i, .int j] => some (.fz (.int (if j < i then j else i)))
  | [.list ds] => (intsOf ds).bind fun ns => if ns = [] then none else some (.fz (.int (minL ns)))
  | _ => none
def gSum : List D → Option Rs
  | [.list ds] => (intsOf ds).map fun ns => .fz (.int ns.sum)
  | [.tuple ds] => (intsOf ds).map fun ns => .fz (.int ns.sum)
  | _ => none
def gAll : List D → Option Rs
  | [.list ds] => (boolsOf ds).map fun ns => .fz (.bool (ns.all id))
  | _ => none
section
variable {X : Cx}
theorem cLen : CallR X (.builtin "len") (rGN X.kw gLen) := by
  intro pins s σ H xs us Q I r ⟨F, ds, res, sm, hx, e, q⟩
  unfold gLen at e
  split at e
  · cases e
    obtain ⟨x, rfl, hw⟩ := hx.one
    obtain ⟨a, vs, ev, h1, r1⟩ := hw.list sm
    subst ev
    exact call_len_seq pins s σ H _ us Q I r ⟨a, vs, rfl, .inl (.inl h1), q.same sm (by rw [r1.length]; exact .int _)⟩
  · cases e
    obtain ⟨x, rfl, hw⟩ := hx.one
    obtain ⟨a, vs, ev, h1, r1⟩ := hw.tuple sm
    subst ev
    exact call_len_seq pins s σ H _ us Q I r ⟨a, vs, rfl, .inr h1, q.same sm (by rw [r1.length]; exact .int _)⟩
  · split at e
    case isFalse => cases e
    case isTrue hz =>
      cases e
      obtain ⟨x, rfl, hw⟩ := hx.one
      exact call_len_str pins s σ H _ us Q I r ⟨_, by rw [hw.str], hz, q.same sm (.int _)⟩
  · cases e
    obtain ⟨x, rfl, hw⟩ := hx.one
    rename_i ds'
    cases hkk : isK ds' with
    | true =>
      rw [hkk, if_pos rfl] at q
      obtain ⟨a, kvs, ev, h1, r1⟩ := hw.dict sm hkk
      subst ev
      obtain ⟨u, rfl, rx⟩ := vals1 r
      cases rx
      exact d_len I h1 fun t s' I' => ⟨.int kvs.length, H, I', ⟨t, rfl⟩, q.same sm (by rw [r1.length]; exact .int _)⟩
    | false =>
      rw [hkk, if_neg Bool.false_ne_true] at q
      obtain ⟨a, xs, es, ev, h1, r0, r1, rfl⟩ := hw.tdict sm hkk
      subst ev
      obtain ⟨u, rfl, rx⟩ := vals1 r
      cases rx
      obtain ⟨us, pr, dd, hs0, hz⟩ := rawX_get I sm h1 r0
      have hl : us.length = (tagT (xs.map (·.1)) es).length - 1 := by
        rw [← Paired.length pr]
        unfold tagT
        rw [List.length_cons, List.length_zip, List.length_map, List.length_map, ← r1.length, List.length_map]; omega
      refine call_len_dictH hs0 dd (by rw [sizeLine_eq] at hz; omega) ?_
      exact ⟨.int (us.length : Nat), H, I.tok _, ⟨_, rfl⟩, q.same sm (by rw [hl]; exact .int _)⟩
  · cases e
theorem cAbs : CallR X (.builtin "abs") (rGN X.kw gAbs) := by
  intro pins s σ H xs us Q I r ⟨F, ds, res, sm, hx, e, q⟩
  unfold gAbs at e
  split at e
  · cases e
    obtain ⟨x, rfl, hw⟩ := hx.one
    exact call_abs pins s σ H _ us Q I r ⟨_, by rw [hw.int], q.same sm (.int _)⟩
  · cases e
theorem cInt : CallR X (.type "int") (rGN X.kw gInt) := by
  intro pins s σ H xs us Q I r ⟨F, ds, res, sm, hx, e, q⟩
  unfold gInt at e
  split at e
  · cases e
    obtain ⟨x, rfl, hw⟩ := hx.one
    exact call_int1 pins s σ H _ us Q I r (.inl ⟨_, by rw [hw.int], q.same sm (.int _)⟩)
  · cases e
    obtain ⟨x, rfl, hw⟩ := hx.one
    exact call_int1 pins s σ H _ us Q I r (.inr ⟨_, by rw [hw.bool], q.same sm (.int _)⟩)
  · split at e
    case isFalse => cases e
    case isTrue hl =>
      obtain ⟨n, e1, rfl⟩ := opt_map e
      obtain ⟨x, rfl, hw⟩ := hx.one
      exact call_int_str pins s σ H _ us Q I r ⟨_, n, by rw [hw.str], e1, hl, q.same sm (.int _)⟩
  · cases e
theorem call_tuple_ofD : CallR X (.type "tuple") (fun xs H Q => ∃ p ys, xs = [.ref p] ∧ ((SqL X.K H p ys ∧ ∀ l ob, H l = none → ob.dict = none → Q (.ref l) (upd H l (.frz ob (.tup ys)))) ∨ (SqT X.K H p ys ∧ Q (.ref p) H))) := by
  intro pins s σ H xs us Q I r h
  obtain ⟨p, ys, rfl, h⟩ := h
  obtain ⟨u, rfl, rx⟩ := vals1 r
  cases rx
  rcases h with ⟨hq, q⟩ | ⟨hq, q⟩
  · obtain ⟨its, r', pl, hz⟩ := I.list hq
    have hlen := r'.length
    refine call_tuple_list pl.isList (fun h' kp => ?_) (by simp only [List.size_toArray] <;> omega)
    have I1 : Inv X pins σ H { s with heap := h' } := I.kept (t' := s.toks) kp
    have I2 : Inv X pins σ (upd H h'.objs.size (.frz { cls := .type "tuple", data := .seq its.toArray } (.tup ys))) { s with heap := h'.push { cls := .type "tuple", data := .seq its.toArray } } :=
      I1.laid (t' := s.toks) (fun b o e => Heap.get?_push_of_some _ e) (Nat.le_refl _) ⟨Heap.get?_push_size _ rfl, hz, its, r', IsTup.new _ _⟩
    exact ⟨.ref h'.objs.size, _, I2, rfl, q _ _ (I1.hok.fresh (Nat.le_refl _)) rfl⟩
  · obtain ⟨its, r', pl, hz⟩ := I.tuple hq
    exact call_tuple_same pl ⟨.ref p, H, I, rfl, q⟩
theorem cTuple : CallR X (.type "tuple") (rGN X.kw gTuple) := by
  intro pins s σ H xs us Q I r ⟨F, ds, res, sm, hx, e, q⟩
  unfold gTuple at e
  split at e
  · cases e
    obtain ⟨x, rfl, hw⟩ := hx.one
    obtain ⟨a, vs, ev, h1, r1⟩ := hw.list sm
    subst ev
    exact call_tuple_ofD pins s σ H _ us Q I r ⟨a, vs, rfl, .inl ⟨.inl h1, fun p ob hp hd => q.tup sm r1 hp hd⟩⟩
  · cases e
    obtain ⟨x, rfl, hw⟩ := hx.one
    obtain ⟨a, vs, ev, h1, r1⟩ := hw.tuple sm
    have hp := hw.rp (by intro _ z; cases z) (by intro _ z; cases z)
    subst ev
    exact call_tuple_of pins s σ H _ us Q I r ⟨a, vs, rfl, .inr ⟨h1, q.same sm hp⟩⟩
  · cases e
theorem pos_of {α : Type} {ns : List α} (h : ¬ ns = []) : 0 < ns.length := by
  cases ns with
  | nil => exact absurd rfl h
  | cons a r => simp
theorem cMin (hc : X.calm = true) : CallR X (.builtin "min") (rGN X.kw gMin) := by
  intro pins s σ H xs us Q I r ⟨F, ds, res, sm, hx, e, q⟩
  unfold gMin at e
  split at e
  · cases e
    obtain ⟨x, y, rfl, hw, hv⟩ := hx.two
    exact call_min2 hc pins s σ H _ us Q I r ⟨_, _, by rw [hw.int, hv.int], q.same sm (.int _)⟩
  · obtain ⟨ns, e1, e2⟩ := opt_bind e
    split at e2
    case isTrue => cases e2
    case isFalse hn =>
      cases e2
      obtain ⟨x, rfl, hw⟩ := hx.one
      rw [intsOf_ok e1] at hw
      obtain ⟨a, vs, ev, h1, r1⟩ := hw.list sm
      subst ev
      rw [r1.ints] at h1
      obtain ⟨m1, m2⟩ := minL_spec hn
      refine cr_min hc pins s σ H _ us Q I r ⟨a, ns, rfl, .inl h1, pos_of hn, fun m hm hle => ?_⟩
      have : m = minL ns := Int.le_antisymm (hle _ m1) (m2 m hm)
      subst this
      exact q.same sm (.int _)
  · cases e
theorem cAll (hc : X.calm = true) : CallR X (.builtin "all") (rGN X.kw gAll) := by
  intro pins s σ H xs us Q I r ⟨F, ds, res, sm, hx, e, q⟩
  unfold gAll at e
  split at e
  · obtain ⟨ns, e1, rfl⟩ := opt_map e
    obtain ⟨x, rfl, hw⟩ := hx.one
    rw [boolsOf_ok e1] at hw
    obtain ⟨a, vs, ev, h1, r1⟩ := hw.list sm
    subst ev
    rw [r1.bools] at h1
    exact cr_all hc pins s σ H _ us Q I r ⟨a, ns, rfl, .inl h1, q.same sm (.bl _)⟩
  · cases e
end
end
end DL
namespace DL
open PySem PySem.Spec PyProof.Rows L2
section
variable {K : KW} {F H F' H' : Hp} {σ σ' : SS} {ρ ρ' : List Sl}
/-! ### sorted -/
/-! ### methods that change what a slot holds -/
def MutOk (K : KW) (r : V → List V → Hp → VK → Prop) (fr : Bool) (g : D → List D → Option (D × D)) : Prop :=
  ∀ (F H : Hp) (a : Addr) (d d' res : D) (ds : List D) (xs : List V) (Q : VK), Same F H → F a = none → Ob K F H a d → (if fr = true then RpA K F xs ds else VwA K F H xs ds) → g d ds = some (d', res) →
    (∀ o' v, Ob K F (upd H a o') a d' → Rp K F v res → Q v (upd H a o')) → r (.ref a) xs H Q
def isLst : D → Bool
  | .list _ => true
  | _ => false
def dMut (i : Nat) (c : D → Bool) (fr : Bool) (g : D → List D → Option (D × D)) (f : M (List Rs)) : M Rs := fun ρ => match ρ[i]? with
  | some (.ow d0) => if c d0 = true then bd f (fun rs => bd (if fr = true then frzA rs else lookA rs) fun ds => fun ρ1 => match ρ1[i]? with
    | some (.ow d) => match g d ds with
      | some (d', res) => .ok (.fz res) (ρ1.set i (.ow d'))
      | none => .bad
    | _ => .bad) ρ else .bad
  | _ => .bad
theorem Ext.updSlot {F₀ H₀ : Hp} {σ₀ : SS} {ρ₀ : List Sl} {i : Nat} {a : Addr} {d d' : D} {o : HO} (x : Ext K F₀ H₀ σ₀ ρ₀ F H σ ρ) (hσ : σ[i]? = some (some (.ref a))) (hρ : ρ[i]? = some (.ow d)) (ho : Ob K F (upd H a o) a d') : Ext K F₀ H₀ σ₀ ρ₀ F (upd H a o) σ (ρ.set i (.ow d')) := by
  have hi : i < ρ.length := (List.getElem?_eq_some_iff.mp hρ).1
  have me : OwAt σ ρ i a := ⟨hσ, d, hρ⟩
  obtain ⟨hf, d0, o0⟩ := x.st.held (.inl me)
  have owB : ∀ j b, OwAt σ (ρ.set i (.ow d')) j b → OwAt σ ρ j b := fun j b ⟨e, d1, q⟩ => by
    by_cases hj : i = j
    · subst hj; exact ⟨e, d, hρ⟩
    · rw [List.getElem?_set_ne hj] at q; exact ⟨e, d1, q⟩
  have lkB : ∀ j b, LkAt σ (ρ.set i (.ow d')) j b → LkAt σ ρ j b := fun j b ⟨e, d1, q⟩ => by
    by_cases hj : i = j
    · subst hj; rw [List.getElem?_set_self hi] at q; cases q
    · rw [List.getElem?_set_ne hj] at q; exact ⟨e, d1, q⟩
  have hdB : ∀ j b, HdAt σ (ρ.set i (.ow d')) j b → HdAt σ ρ j b := fun j b q => q.elim (fun z => .inl (owB j b z)) fun z => .inr (lkB j b z)
  refine ⟨⟨fun b u e => ?_, by rw [List.length_set]; exact x.st.len, fun j s q => ?_, fun j k b h1 h2 => x.st.dj j k b (hdB j b h1) (hdB k b h2)⟩, x.fr, fun b u e n => ?_, x.nf, fun b e => ?_, fun j b q => x.ow j b (owB j b q), fun j b q => x.lk j b (lkB j b q)⟩
  · have hb : b ≠ a := fun z => by subst z; rw [hf] at e; cases e
    rw [upd_ne hb]; exact x.st.le b u e
  · by_cases hj : i = j
    · subst hj
      rw [List.getElem?_set_self hi] at q; cases q
      exact ⟨a, hσ, hf, ho⟩
    · rw [List.getElem?_set_ne hj] at q
      have z := x.st.sl j s q
      cases s with
      | em => trivial
      | fz d => exact z
      | ow d1 =>
        obtain ⟨b, e, nf, ob⟩ := z
        have hb : b ≠ a := fun z => by
          subst z
          exact hj (x.st.dj i j _ (.inl me) (.inl ⟨e, d1, q⟩))
        exact ⟨b, e, nf, ob.mono (Same.refl _) (upd_ne hb)⟩
      | lk d1 =>
        obtain ⟨b, e, nf, ob⟩ := z
        have hb : b ≠ a := fun z => by
          subst z
          exact hj (x.st.dj i j _ (.inl me) (.inr ⟨e, d1, q⟩))
        exact ⟨b, e, nf, ob.mono (Same.refl _) (upd_ne hb)⟩
  · have hb : b ≠ a := fun z => by
      subst z
      rcases x.ow i _ me with y | y
      · exact n i y
      · rw [e] at y; cases y
    rw [upd_ne hb]; exact x.kp b u e n
  · by_cases hb : b = a
    · subst hb; rw [upd_same]; exact fun z => nomatch z
    · rw [upd_ne hb]; exact x.gr b e
theorem sem_mut {T : String} {i : Nat} {c : D → Bool} {fr : Bool} {g : D → List D → Option (D × D)} {f : M (List Rs)} {r : V → List V → Hp → VK → Prop} (hc : ∀ F H a d, c d = true → Ob K F H a d → tyV K T (.ref a) H) (h : MutOk K r fr g) :
    ∀ σ H Q, tSem K (dMut i c fr g f) σ H Q → tBM K T r (tVar i) (tSemA K f) σ H Q := fun σ H Q ⟨F, ρ, res, ρ', s, e, k⟩ => by
  unfold dMut at e
  cases q0 : ρ[i]? with
  | none => rw [q0] at e; cases e
  | some sl =>
    rw [q0] at e
    cases sl with
    | em => cases e
    | fz _ => cases e
    | lk _ => cases e
    | ow d0 =>
      simp only at e
      split at e
      case isFalse => cases e
      case isTrue hc0 =>
        obtain ⟨rs, ρ1, e1, e⟩ := bd_ok e
        obtain ⟨ds, ρ2, e2, e⟩ := bd_ok e
        obtain ⟨a, ea, hf0, ho0⟩ := s.sl i _ q0
        cases q1 : ρ2[i]? with
        | none => rw [q1] at e; cases e
        | some sl2 =>
          rw [q1] at e
          cases sl2 with
          | em => cases e
          | fz _ => cases e
          | lk _ => cases e
          | ow d =>
            simp only at e
            cases eg : g d ds with
            | none => rw [eg] at e; cases e
            | some p =>
              obtain ⟨d', rs'⟩ := p
              rw [eg] at e
              cases e
              refine ⟨.ref a, ea, hc F H a d0 hc0 ho0, F, ρ, rs, ρ1, s, e1, fun F1 H1 xs x1 q2 => ?_⟩
              have main : ∀ F2, Ext K F H σ ρ F2 H1 σ ρ2 → (if fr = true then RpA K F2 xs ds else VwA K F2 H1 xs ds) → r (.ref a) xs H1 Q := fun F2 x2 hv => by
                obtain ⟨b, eb, hf, ho⟩ := x2.st.sl i _ q1
                rw [ea] at eb; cases eb
                refine h F2 H1 a d d' rs' ds xs Q x2.st.le hf ho hv eg fun o' v ho' rv => ?_
                exact k F2 _ v (x2.updSlot ea q1 ho') rv
              cases fr with
              | true =>
                obtain ⟨F2, x2, rp, _⟩ := frzA_ok x1 q2 e2
                exact main F2 x2 rp
              | false =>
                obtain ⟨z, w⟩ := lookA_ok x1.st q2 e2
                subst z
                exact main F1 x1 w
theorem ty_lst : ∀ F H a d, isLst d = true → Ob K F H a d → tyV K "list" (.ref a) H := fun F H a d h o => by
  cases d with
  | list ds => obtain ⟨vs, e, _⟩ := o; exact .inl ⟨rfl, vs, .inl (.inl e)⟩
  | _ => cases h
def gAppend : D → List D → Option (D × D)
  | .list ds, [d] => if ds.length < sizeLine then some (.list (ds ++ [d]), .none) else none
  | _, _ => none
def gExtend : D → List D → Option (D × D)
  | .list ds, [.list es] => if ds.length + es.length ≤ sizeLine then some (.list (ds ++ es), .none) else none
  | _, _ => none
theorem RpA.inv1 {xs : List V} {d : D} (h : RpA K F xs [d]) : ∃ x, xs = [x] ∧ Rp K F x d := by
  cases h with
  | cons h t => cases t; exact ⟨_, rfl, h⟩
theorem m_append : MutOk K rAppend true gAppend := fun F H a d d' res ds xs Q sm hf ho hv eg k => by
  unfold gAppend at eg
  split at eg
  · split at eg
    case isFalse => cases eg
    case isTrue hl =>
      cases eg
      obtain ⟨vs, eo, ra⟩ := ho
      obtain ⟨x, rfl, rx⟩ := RpA.inv1 (show RpA K F xs [_] from hv)
      exact ⟨a, vs, x, rfl, rfl, eo, by rw [ra.length]; exact hl, k _ _ ⟨_, upd_same, ra.app (.one rx)⟩ .non⟩
  · cases eg
/-- the list that is put behind may be any list that is read -/
def rExtR : V → List V → Hp → VK → Prop := fun x vs H Q => ∃ l b xs zs, x = .ref l ∧ vs = [.ref b] ∧ H l = some (.lst xs) ∧ Rd H b (.lst zs) ∧ xs.length + zs.length ≤ sizeLine ∧ Q .non (upd H l (.lst (xs ++ zs)))
theorem mt_extR {X : Cx} : MtR X "list.extend" rExtR := by
  intro pins s σ H x vs v us Q I rx rv ⟨l, b, xs, zs, ex, evs, hl, hb, hz, q⟩
  subst ex; subst evs
  cases rx
  obtain ⟨u, rfl, ru⟩ := rv.one
  cases ru
  obtain ⟨_, its, n, r1, o1⟩ := I.hok l _ hl
  obtain ⟨_, its2, n2, r2, o2⟩ := hb.ok I.hok
  have g1 := r1.length
  have g2 := r2.length
  have g5 : its.toArray.size + its2.toArray.size ≤ sizeLine := by rw [List.size_toArray, List.size_toArray, ← g1, ← g2]; exact hz
  have g6 : its.toArray.size ≤ its.toArray.size + its2.toArray.size := Nat.le_add_right _ _
  have g3 : Builtin.List.listTooLong (its.toArray.size + its2.toArray.size) = false := notLongL g5
  have g4 : ¬ (!its.toArray.isEmpty && Builtin.List.listTooLong (its.toArray.size + its2.toArray.size)) = true := by rw [g3, Bool.and_false]; exact Bool.false_ne_true
  have run := AutoSeq1.list_extend_list_list_0 l its.toArray n b its2.toArray n2 g4 (Nat.le_trans g6 g5) (Nat.le_succ_of_le g5)
  refine call_meets F.slot_list_extend ⟨_, o1, rfl⟩ F.entry_list_extend (F.args_list_extend_2 _ _) run ⟨o1, o2, .non, _, ?_, rfl, q⟩
  exact I.lset (its' := its ++ its2) hl o1 (by simp) (r1.append r2) (by rw [List.length_append]; exact hz)
theorem m_extend : MutOk K rExtR false gExtend := fun F H a d d' res ds xs Q sm hf ho hv eg k => by
  unfold gExtend at eg
  split at eg
  · split at eg
    case isFalse => cases eg
    case isTrue hl =>
      cases eg
      obtain ⟨vs, eo, ra⟩ := ho
      obtain ⟨x, rfl, hw⟩ := (show VwA K F H xs [_] from hv).one
      obtain ⟨b, ws, rfl, h1, r1⟩ := hw.list sm
      exact ⟨a, b, vs, ws, rfl, rfl, eo, h1, by rw [ra.length, r1.length]; exact hl, k _ _ ⟨_, upd_same, ra.app r1⟩ .non⟩
  · cases eg
section
variable {X : Cx} {o e : Expr} {es : List Expr} {name : Str} {apos cpos : Pos} {T id : String} {r : V → List V → Hp → VK → Prop} {f : M (List Rs)} {i : Nat} {c : D → Bool} {fr : Bool} {g : D → List D → Option (D × D)}
theorem emut (pa : PlainAttrs T) (slot : Slot T name id) (hty : typeOf (.builtin id) = pure (.type "method_descriptor")) (hm : MtR X id r) (hc : ∀ F H a d, c d = true → Ob X.kw F H a d → tyV X.kw T (.ref a) H) (h : MutOk X.kw r fr g) (ho : PE X o (tVar i)) (ha : PA X (e :: es) (tSemA X.kw f))
    (hbase : attributeBase o name X.env (eval o X.env) = eval o X.env := by rfl)
    (hfew : ((backTo cpos (starEach (e :: es) X.env)).all (fun x => !x.1) && (backToKw cpos (keywordEach [] X.env)).all (fun x => x.1.isSome)
      && decide ((e :: es).length + ([] : List Keyword).length + (if ([] : List Keyword).isEmpty then 0 else 1) < 30)) = true := by rfl)
    (hline : (apos.endLine == cpos.line) = true := by rfl) (hs : starEach (e :: es) X.env = (false, eval e X.env) :: starEach es X.env := by rfl) (hplain : (backTo cpos (starEach es X.env)).any (·.1) = false := by rfl) :
    PE X (.Call (.Attribute o name apos) (e :: es) [] cpos) (tSem X.kw (dMut i c fr g f)) := peWeak (pe_bm pa slot hty hm ho ha hbase hfew hline hs hplain) (sem_mut hc h)
end
end
end DL
namespace DL
open PySem PySem.Spec PyProof.Rows L2
section
variable {K : KW} {F H F' H' : Hp} {σ σ' : SS} {ρ ρ' : List Sl}
/-! ### is, in -/
def isB (b : Bool) : D → Bool
  | .bool a => a == b
  | _ => false
def gIs : D → D → Option Bool
  | x, .none => some (isNone x)
  | x, .bool b => some (isB b x)
  | _, _ => none
def gIsNot (x y : D) : Option Bool := (gIs x y).map fun b => !b
def gIn : D → D → Option Bool
  | x, .list ds => if SeqAt.shaped x && SeqAt.shaped (.list ds) then some (ds.any fun z => PyData.eqv z x) else none
  | x, .tuple ds => if SeqAt.shaped x && SeqAt.shaped (.tuple ds) then some (ds.any fun z => PyData.eqv z x) else none
  | x, .dict kvs => if isK kvs = true then (keyOf x).map fun k => (dget k kvs).isSome else (tkOf x).map fun k => dhasT k kvs
  | .str x, .str y => some (if x.cps.size = 1 then decide (x.cps.getD 0 0 ∈ y.cps.toList) else !(Builtin.Str.occurrences y x 0 y.length 1).isEmpty)
  | _, _ => none
def gNotIn (x y : D) : Option Bool := (gIn x y).map fun b => !b
theorem rpK_some {k : Key} {kvs : List (Key × V)} {ds : List (D × D)} (r1 : RpK K F kvs ds) : (valV kvs k).isSome = (dget k ds).isSome := by
  obtain ⟨g1, g2⟩ := rpK_get (k := k) r1
  cases z : dget k ds with
  | none => rw [g2 z]; rfl
  | some d => obtain ⟨w, e1, _⟩ := g1 d z; rw [e1]; rfl
theorem isNone_V {v : V} {d : D} (h : Vw K F H v d) : decide (v = .non) = isNone d := by
  rcases h with h | ⟨a, rfl, o⟩
  · cases h <;> rfl
  · cases d with
    | list _ => rfl
    | dict _ => rfl
    | _ => exact o.elim
theorem vw_bool {v : V} {d : D} {b : Bool} {u : Value} (h : Vw K F H v d) (r : RelV v u) : isB b d = (u == Value.bool b) := by
  rcases h with h | ⟨a, rfl, o⟩
  · cases h with
    | non => cases r; rfl
    | bl a =>
      cases (show u = Value.bool a from r)
      by_cases e : a = b
      · subst e; simp [isB]
      · have h1 : (Value.bool a == Value.bool b) = false := beq_eq_false_iff_ne.mpr fun z => e (Value.bool.inj z)
        have h2 : (a == b) = false := beq_eq_false_iff_ne.mpr e
        rw [h1]; exact h2
    | int i => obtain ⟨t, rfl⟩ := r; rfl
    | str x => obtain ⟨t, rfl⟩ := r; rfl
    | lst _ _ => cases r; rfl
    | tup _ _ => cases r; rfl
    | dct _ _ => cases r; rfl
    | tdct _ _ _ => cases r; rfl
  · cases r
    cases d with
    | list _ => rfl
    | dict _ => rfl
    | _ => exact o.elim
theorem notMap {o : Option Bool} {k : Bool} (h : o.map (fun b => !b) = some k) : ∃ b, o = some b ∧ k = !b := by
  cases o with
  | none => cases h
  | some b => cases h; exact ⟨b, rfl, rfl⟩
section
variable {X : Cx}
theorem is_bool {u : Value} {b : Bool} {A : Around} {E : Value → Shared → Prop} {Q : Value → Shared → Prop} {s : Shared} {v : V} (r : RelV v u) (h : Q (.bool (u == Value.bool b)) s) : wpAny (model X.prog X.w) A (compareOp .Is u (.bool b)) Q E s := by
  by_cases e : u = Value.bool b
  · subst e
    exact wpAny_is_self rfl (by simpa using h)
  · have e2 : (u == Value.bool b) = false := beq_eq_false_iff_ne.mpr e
    rw [e2] at h
    refine wpAny_is_other ?_ e h
    cases v with
    | non => cases r; rfl
    | bl a => cases (show u = Value.bool a from r); rfl
    | int i => obtain ⟨t, rfl⟩ := r; rfl
    | str x => obtain ⟨t, rfl⟩ := r; rfl
    | byt x => obtain ⟨t, rfl⟩ := r; rfl
    | flt x => obtain ⟨t, rfl⟩ := r; rfl
    | ref a => cases r; rfl
    | ty n => cases r; rfl
theorem isnot_bool {u : Value} {b : Bool} {A : Around} {E : Value → Shared → Prop} {Q : Value → Shared → Prop} {s : Shared} {v : V} (r : RelV v u) (h : Q (.bool (!(u == Value.bool b))) s) : wpAny (model X.prog X.w) A (compareOp .IsNot u (.bool b)) Q E s := by
  by_cases e : u = Value.bool b
  · subst e
    exact wpAny_isNot_self rfl (by simpa using h)
  · have e2 : (u == Value.bool b) = false := beq_eq_false_iff_ne.mpr e
    rw [e2] at h
    refine wpAny_isNot_other ?_ e h
    cases v with
    | non => cases r; rfl
    | bl a => cases (show u = Value.bool a from r); rfl
    | int i => obtain ⟨t, rfl⟩ := r; rfl
    | str x => obtain ⟨t, rfl⟩ := r; rfl
    | byt x => obtain ⟨t, rfl⟩ := r; rfl
    | flt x => obtain ⟨t, rfl⟩ := r; rfl
    | ref a => cases r; rfl
    | ty n => cases r; rfl
theorem oIs : OpR X (compareOp .Is) (rG X.kw (gB gIs)) := by
  intro pins s σ H x y v u Q I rx ry ⟨F, dx, dy, res, sm, hx, hy, e, q⟩
  obtain ⟨k, e0, rfl⟩ := map_b e
  clear e
  have e := e0
  clear e0
  unfold gIs at e
  split at e
  · cases e
    refine op_isN pins s σ H x y v u Q I rx ry ⟨hy.none, ?_⟩
    rw [isNone_V hx]; exact q.same sm (.bl _)
  · cases e
    rw [hy.bool] at ry
    cases ry
    rw [vw_bool hx rx] at q
    exact is_bool rx ⟨.bl _, H, I, rfl, q.same sm (.bl _)⟩
  · cases e
theorem oIsNot : OpR X (compareOp .IsNot) (rG X.kw (gB gIsNot)) := by
  intro pins s σ H x y v u Q I rx ry ⟨F, dx, dy, res, sm, hx, hy, e, q⟩
  obtain ⟨k, e0, rfl⟩ := map_b e
  clear e
  obtain ⟨b, e, rfl⟩ := notMap e0
  clear e0
  unfold gIs at e
  split at e
  · cases e
    refine op_notN pins s σ H x y v u Q I rx ry ⟨hy.none, ?_⟩
    rw [isNone_V hx]; exact q.same sm (.bl _)
  · cases e
    rw [hy.bool] at ry
    cases ry
    rw [vw_bool hx rx] at q
    exact isnot_bool rx ⟨.bl _, H, I, rfl, q.same sm (.bl _)⟩
  · cases e
theorem oIn (hu : X.A.units + 65 < cLine) : OpR X (compareOp .In) (rG X.kw (gB gIn)) := by
  intro pins s σ H x y v u Q I rx ry ⟨F, dx, dy, res, sm, hx, hy, e, q⟩
  obtain ⟨k, e0, rfl⟩ := map_b e
  clear e
  have e := e0
  clear e0
  unfold gIn at e
  split at e
  · split at e
    case isFalse => cases e
    case isTrue h =>
      cases e
      rw [Bool.and_eq_true] at h
      exact op_inD hu pins s σ H x y v u Q I rx ry ⟨_, _, hx.dp sm (noD_shaped h.1), hy.dp sm (noD_shaped h.2), h.1, h.2, q.same sm (.bl _)⟩
  · split at e
    case isFalse => cases e
    case isTrue h =>
      cases e
      rw [Bool.and_eq_true] at h
      obtain ⟨as, r1⟩ := Dp.reads I _ x v (hx.dp sm (noD_shaped h.1)) rx
      obtain ⟨bs, r2⟩ := Dp.reads I _ y u (hy.dp sm (noD_shaped h.2)) ry
      exact SeqAt.in_tuple_reads r2 r1 (SeqAt.canLay_of_shaped h.2) (SeqAt.canLay_of_shaped h.1) (room_in_shaped h.1 hu) ⟨.bl _, H, I, rfl, q.same sm (.bl _)⟩
  · split at e
    case isTrue hkk =>
      obtain ⟨k, ek, rfl⟩ := opt_map e
      obtain ⟨a, kvs, rfl, h1, r1⟩ := hy.dict sm hkk
      have hk := hx.key ek
      subst hk
      cases ry
      refine d_in (o := valV kvs k) (by omega) I (dgetR h1) rx fun s' I' => ⟨.bl _, H, I', rfl, ?_⟩
      rw [rpK_some r1]; exact q.same sm (.bl _)
    case isFalse hkk =>
      obtain ⟨k, ek, rfl⟩ := opt_map e
      obtain ⟨a, xs, es, rfl, h1, r0, r1, rfl⟩ := hy.tdict sm (by simpa using hkk)
      obtain ⟨b, ks, rfl, rfl, hk, rb, his, _⟩ := hx.tkey I sm ek rx
      cases ry
      obtain ⟨us, pr, dd, hsm, _⟩ := rawX_get I sm h1 r0
      refine wpAny_in_heap (knd := nestedKind X.prog X.w) (nk_room (by omega)) his hsm dd ⟨.bl _, H, I.tok _, rfl, ?_⟩
      rw [tag_has hk r1] at q
      rw [← has_val pr]
      exact q.same sm (.bl _)
  · cases e
    rename_i a b
    split at q
    · rename_i h1
      refine op_in_sign pins s σ H x y v u Q I rx ry ⟨a.cps.getD 0 0, b, ?_, hy.str, q.same sm (.bl _)⟩
      rw [hx.str]
      congr 1
      cases a with
      | mk cps =>
        congr 1
        have h1 : cps.size = 1 := h1
        refine Array.ext (by simp [h1]) fun i hi _ => ?_
        have : i = 0 := by omega
        subst this
        simp [Array.getD, h1]
    · exact op_in_str pins s σ H x y v u Q I rx ry ⟨_, _, hx.str, hy.str, q.same sm (.bl _)⟩
  · cases e
theorem oNotIn (hu : X.A.units + 65 < cLine) : OpR X (compareOp .NotIn) (rG X.kw (gB gNotIn)) := by
  intro pins s σ H x y v u Q I rx ry ⟨F, dx, dy, res, sm, hx, hy, e, q⟩
  obtain ⟨k, e0, rfl⟩ := map_b e
  clear e
  obtain ⟨b0, e, rfl⟩ := notMap e0
  clear e0
  unfold gIn at e
  split at e
  · split at e
    case isFalse => cases e
    case isTrue h =>
      cases e
      rw [Bool.and_eq_true] at h
      exact op_notInD hu pins s σ H x y v u Q I rx ry ⟨_, _, hx.dp sm (noD_shaped h.1), hy.dp sm (noD_shaped h.2), h.1, h.2, q.same sm (.bl _)⟩
  · split at e
    case isFalse => cases e
    case isTrue h =>
      cases e
      rw [Bool.and_eq_true] at h
      obtain ⟨as, r1⟩ := Dp.reads I _ x v (hx.dp sm (noD_shaped h.1)) rx
      obtain ⟨bs, r2⟩ := Dp.reads I _ y u (hy.dp sm (noD_shaped h.2)) ry
      exact SeqAt.notIn_tuple_reads r2 r1 (SeqAt.canLay_of_shaped h.2) (SeqAt.canLay_of_shaped h.1) (room_in_shaped h.1 hu) ⟨.bl _, H, I, rfl, q.same sm (.bl _)⟩
  · split at e
    case isTrue hkk =>
      obtain ⟨k, ek, rfl⟩ := opt_map e
      obtain ⟨a, kvs, rfl, h1, r1⟩ := hy.dict sm hkk
      have hk := hx.key ek
      subst hk
      cases ry
      refine d_notIn (o := valV kvs k) (by omega) I (dgetR h1) rx fun s' I' => ⟨.bl _, H, I', rfl, ?_⟩
      rw [rpK_some r1]; exact q.same sm (.bl _)
    case isFalse hkk =>
      obtain ⟨k, ek, rfl⟩ := opt_map e
      obtain ⟨a, xs, es, rfl, h1, r0, r1, rfl⟩ := hy.tdict sm (by simpa using hkk)
      obtain ⟨b, ks, rfl, rfl, hk, rb, his, _⟩ := hx.tkey I sm ek rx
      cases ry
      obtain ⟨us, pr, dd, hsm, _⟩ := rawX_get I sm h1 r0
      refine wpAny_notIn_heap (knd := nestedKind X.prog X.w) (nk_room (by omega)) his hsm dd ⟨.bl _, H, I.tok _, rfl, ?_⟩
      rw [tag_has hk r1] at q
      rw [← has_val pr]
      exact q.same sm (.bl _)
  · cases e
    rename_i a b
    split at q
    · rename_i h1
      refine op_notIn_sign pins s σ H x y v u Q I rx ry ⟨a.cps.getD 0 0, b, ?_, hy.str, q.same sm (.bl _)⟩
      rw [hx.str]
      congr 1
      cases a with
      | mk cps =>
        congr 1
        have h1 : cps.size = 1 := h1
        refine Array.ext (by simp [h1]) fun i hi _ => ?_
        have : i = 0 := by omega
        subst this
        simp [Array.getD, h1]
    · exact op_notIn_str pins s σ H x y v u Q I rx ry ⟨_, _, hx.str, hy.str, q.same sm (.bl _)⟩
  · cases e
end
/-! ### tests -/
def tru : D → Option Bool
  | .none => some false
  | .bool b => some b
  | .int i => some (i != 0)
  | .str x => if x.length ≤ sizeLine then some ((x.length : Int) != 0) else none
  | .list ds => some (!ds.isEmpty)
  | .tuple ds => some (!ds.isEmpty)
  | .dict _ => none
def dTru (f : M Rs) : M Bool := bd f fun r => bd (look r) fun d => opt (tru d)
theorem empty_len {α β : Type} {as : List α} {bs : List β} (h : as.length = bs.length) : (!as.isEmpty) = !bs.isEmpty := by
  cases as <;> cases bs <;> first | rfl | simp at h
theorem tru_ok' {v : V} {d : D} {k : Bool} (s : Same F H) (h : Vw K F H v d) (e : tru d = some k) : TruV K v H k := by
  cases d with
  | none => cases e; rw [h.none]; rfl
  | bool b => cases e; rw [h.bool]; rfl
  | int i => cases e; rw [h.int]; rfl
  | str x =>
    unfold tru at e
    simp only at e
    split at e
    case isFalse => cases e
    case isTrue hl => cases e; rw [h.str]; exact ⟨hl, rfl⟩
  | list ds => cases e; obtain ⟨a, vs, rfl, h1, r⟩ := h.list s; exact .inl ⟨vs, .inl h1, (empty_len r.length).symm⟩
  | tuple ds => cases e; obtain ⟨a, vs, rfl, h1, r⟩ := h.tuple s; exact .inr (.inl ⟨vs, h1, (empty_len r.length).symm⟩)
  | dict ds => cases e
theorem sem_tru {f : M Rs} : ∀ σ H Q, tSemT K (dTru f) σ H Q → tSem K f σ H fun x H' => ∃ k, TruV K x H' k ∧ Q k H' := fun σ H Q ⟨F, ρ, r, ρ', s, e, k⟩ => by
  obtain ⟨ra, ρ1, e1, t1⟩ := bd_ok e
  obtain ⟨d, ρ2, e2, t2⟩ := bd_ok t1
  obtain ⟨e3, e4⟩ := opt_ok t2
  refine ⟨F, ρ, ra, ρ1, s, e1, fun F1 H1 x x1 r1 => ?_⟩
  obtain ⟨z, w⟩ := look_ok x1.st r1 e2
  subst z; subst e4
  exact ⟨r, tru_ok' x1.st.le w e3, k F1 H1 x1⟩
def dNot (c : M Bool) : M Bool := bd c fun b => pr (!b)
def dAnd (a b : M Bool) : M Bool := bd a fun k => if k = true then b else pr false
def dOr (a b : M Bool) : M Bool := bd a fun k => if k = true then pr true else b
/-- .. by values -/
def dAndV (a b : M Rs) : M Rs := bd a fun r => bd (look r) fun d => bd (opt (tru d)) fun k => if k = true then b else bd (frz r) fun d => pr (.fz d)
def dOrV (a b : M Rs) : M Rs := bd a fun r => bd (look r) fun d => bd (opt (tru d)) fun k => if k = true then bd (frz r) (fun d => pr (.fz d)) else b
def dNotV (a : M Rs) : M Rs := bd a fun r => bd (look r) fun d => bd (opt (tru d)) fun k => pr (.fz (.bool (!k)))
def dIfE (c : M Bool) (a b : M Rs) : M Rs := bd c fun k => if k = true then a else b
/-- a <= b <= c -/
def dChain (g g' : D → D → Option Bool) (fa fb fc : M Rs) : M Rs := bd fa fun ra => bd fb fun rb => bd (look ra) fun da => bd (look rb) fun db => bd (opt (g da db)) fun k =>
  if k = true then bd fc fun rc => bd (look rb) fun db => bd (look rc) fun dc => bd (opt (g' db dc)) fun k => pr (.fz (.bool k)) else pr (.fz (.bool false))
def dChainT (g g' : D → D → Option Bool) (fa fb fc : M Rs) : M Bool := bd fa fun ra => bd fb fun rb => bd (look ra) fun da => bd (look rb) fun db => bd (opt (g da db)) fun k =>
  if k = true then bd fc fun rc => bd (look rb) fun db => bd (look rc) fun dc => opt (g' db dc) else pr false
theorem sem_not {c : M Bool} : ∀ σ H Q, tSemT K (dNot c) σ H Q → tNot (tSemT K c) σ H Q := fun σ H Q ⟨F, ρ, r, ρ', s, e, k⟩ => by
  obtain ⟨b, ρ1, e1, t1⟩ := bd_ok e
  obtain ⟨z1, z2⟩ := pr_ok t1
  subst z1; subst z2
  exact ⟨F, ρ, b, _, s, e1, k⟩
theorem sem_and {a b : M Bool} : ∀ σ H Q, tSemT K (dAnd a b) σ H Q → tAnd (tSemT K a) (tSemT K b) σ H Q := fun σ H Q ⟨F, ρ, r, ρ', s, e, k⟩ => by
  obtain ⟨k1, ρ1, e1, t1⟩ := bd_ok e
  refine ⟨F, ρ, k1, ρ1, s, e1, fun F1 H1 x1 => ?_⟩
  cases k1 with
  | true => exact iteT ⟨F1, ρ1, r, ρ', x1.st, t1, fun F2 H2 x2 => k F2 H2 (x1.trans x2)⟩
  | false => cases t1; exact iteF (k F1 H1 x1)
theorem sem_or {a b : M Bool} : ∀ σ H Q, tSemT K (dOr a b) σ H Q → tOr (tSemT K a) (tSemT K b) σ H Q := fun σ H Q ⟨F, ρ, r, ρ', s, e, k⟩ => by
  obtain ⟨k1, ρ1, e1, t1⟩ := bd_ok e
  refine ⟨F, ρ, k1, ρ1, s, e1, fun F1 H1 x1 => ?_⟩
  cases k1 with
  | true => cases t1; exact iteT (k F1 H1 x1)
  | false => exact iteF ⟨F1, ρ1, r, ρ', x1.st, t1, fun F2 H2 x2 => k F2 H2 (x1.trans x2)⟩
theorem sem_ifE {c : M Bool} {a b : M Rs} : ∀ σ H Q, tSem K (dIfE c a b) σ H Q → tIf (tSemT K c) (tSem K a) (tSem K b) σ H Q := fun σ H Q ⟨F, ρ, r, ρ', s, e, k⟩ => by
  obtain ⟨k1, ρ1, e1, t1⟩ := bd_ok e
  refine ⟨F, ρ, k1, ρ1, s, e1, fun F1 H1 x1 => ?_⟩
  cases k1 with
  | true => exact iteT ⟨F1, ρ1, r, ρ', x1.st, t1, fun F2 H2 v x2 q => k F2 H2 v (x1.trans x2) (q.base fun a z => x1.back z)⟩
  | false => exact iteF ⟨F1, ρ1, r, ρ', x1.st, t1, fun F2 H2 v x2 q => k F2 H2 v (x1.trans x2) (q.base fun a z => x1.back z)⟩
theorem sem_andV {a b : M Rs} : ∀ σ H Q, tSem K (dAndV a b) σ H Q → tAndT K (tSem K a) (tSem K b) σ H Q := fun σ H Q ⟨F, ρ, r, ρ', s, e, k⟩ => by
  obtain ⟨r1, ρ1, e1, t1⟩ := bd_ok e
  obtain ⟨d, ρ2, e2, t2⟩ := bd_ok t1
  obtain ⟨k1, ρ3, e3, t3⟩ := bd_ok t2
  obtain ⟨g3, z3⟩ := opt_ok e3
  refine ⟨F, ρ, r1, ρ1, s, e1, fun F1 H1 x x1 q1 => ?_⟩
  obtain ⟨z, w⟩ := look_ok x1.st q1 e2
  subst z; subst z3
  refine ⟨k1, tru_ok' x1.st.le w g3, ?_⟩
  cases k1 with
  | true => exact iteT ⟨F1, _, r, ρ', x1.st, t3, fun F2 H2 v x2 q => k F2 H2 v (x1.trans x2) (q.base fun a z => x1.back z)⟩
  | false =>
    obtain ⟨d', ρ4, e4, t4⟩ := bd_ok t3
    cases t4
    obtain ⟨F2, x2, rp⟩ := frz_ok x1 q1 e4
    exact iteF (k F2 H1 x x2 rp)
theorem sem_chain {g g' : D → D → Option Bool} {fa fb fc : M Rs} : ∀ σ H Q, tSem K (dChain g g' fa fb fc) σ H Q → tChain (rG K (gB g)) (rG K (gB g')) (tSem K fa) (tSem K fb) (tSem K fc) σ H Q := fun σ H Q ⟨F, ρ, r, ρ', s, e, k⟩ => by
  obtain ⟨ra, ρ1, e1, t1⟩ := bd_ok e
  obtain ⟨rb, ρ2, e2, t2⟩ := bd_ok t1
  obtain ⟨da, ρ3, e3, t3⟩ := bd_ok t2
  obtain ⟨db, ρ4, e4, t4⟩ := bd_ok t3
  obtain ⟨k1, ρ5, e5, t5⟩ := bd_ok t4
  obtain ⟨g5, z5⟩ := opt_ok e5
  refine ⟨F, ρ, ra, ρ1, s, e1, fun F1 H1 x x1 r1 => ⟨F1, ρ1, rb, ρ2, x1.st, e2, fun F2 H2 y x2 r2 => ?_⟩⟩
  have r1' := r1.ext x2
  have x12 := x1.trans x2
  obtain ⟨e3', w1⟩ := look_ok x2.st r1' e3
  subst e3'
  obtain ⟨e4', w2⟩ := look_ok x2.st r2 e4
  subst e4'; subst z5
  refine ⟨F2, da, db, .fz (.bool k1), x2.st.le, w1, w2, by unfold gB; rw [g5]; rfl, fun F3 H3 v gr hv => ?_⟩
  have hv : Rp K F3 v (.bool k1) := hv
  cases hv
  refine ⟨k1, rfl, ?_⟩
  have x3 := x2.st.grow gr
  have x13 := x12.trans x3
  cases k1 with
  | false => cases t5; exact iteF (k F3 H3 _ x13 (.bl _))
  | true =>
    obtain ⟨rc, ρ6, e6, t6⟩ := bd_ok t5
    obtain ⟨db2, ρ7, e7, t7⟩ := bd_ok t6
    obtain ⟨dc, ρ8, e8, t8⟩ := bd_ok t7
    obtain ⟨k2, ρ9, e9, t9⟩ := bd_ok t8
    obtain ⟨g9, z9⟩ := opt_ok e9
    refine iteT ⟨F3, _, rc, ρ6, x3.st, e6, fun F4 H4 z x4 r4 => ?_⟩
    obtain ⟨e7', w3⟩ := look_ok x4.st (r2.ext (x3.trans x4)) e7
    subst e7'
    obtain ⟨e8', w4⟩ := look_ok x4.st r4 e8
    subst e8'; subst z9
    cases t9
    refine ⟨F4, db2, dc, .fz (.bool k2), x4.st.le, w3, w4, by unfold gB; rw [g9]; rfl, fun F5 H5 v gr2 hv => ?_⟩
    exact k F5 H5 v ((x13.trans x4).trans (x4.st.grow gr2)) hv
theorem sem_chainT {g g' : D → D → Option Bool} {fa fb fc : M Rs} : ∀ σ H Q, tSemT K (dChainT g g' fa fb fc) σ H Q → tTest (tChain (rG K (gB g)) (rG K (gB g')) (tSem K fa) (tSem K fb) (tSem K fc)) σ H Q := fun σ H Q ⟨F, ρ, r, ρ', s, e, k⟩ => by
  refine sem_chain σ H _ ⟨F, ρ, .fz (.bool r), ρ', s, ?_, fun F' H' v x hv => ?_⟩
  · obtain ⟨ra, ρ1, e1, e⟩ := bd_ok e
    obtain ⟨rb, ρ2, e2, t1⟩ := bd_ok e
    obtain ⟨da, ρ3, e3, t2⟩ := bd_ok t1
    obtain ⟨db, ρ4, e4, t3⟩ := bd_ok t2
    obtain ⟨k1, ρ5, e5, t4⟩ := bd_ok t3
    unfold dChain bd
    simp only [e1, e2, e3, e4, e5]
    cases k1 with
    | false => cases t4; rfl
    | true =>
      obtain ⟨rc, ρ6, e6, t5⟩ := bd_ok t4
      obtain ⟨db2, ρ7, e7, t6⟩ := bd_ok t5
      obtain ⟨dc, ρ8, e8, t7⟩ := bd_ok t6
      simp only [if_true, e6, e7, e8, t7]
      rfl
  · have hv : Rp K F' v (.bool r) := hv
    cases hv
    exact ⟨r, rfl, k F' H' x⟩
section
variable {X : Cx} {a b c : Expr} {rest : List Expr} {pos : Pos} {fa fb fc : M Rs} {ta tb : M Bool}
/-- any expression as a test -/
theorem ttr (ha : PE X a (tSem X.kw fa)) (he : ∀ whole, isTrue a X.env whole = (do let v ← whole; standAt a.pos; holding [v] (truthy v)) := by exact fun _ => rfl) : PT X a (tSemT X.kw (dTru fa)) := ptWeak (pt_truth ha he) sem_tru
theorem tnot (h : PT X a (tSemT X.kw ta)) : PT X (.UnaryOp .Not a pos) (tSemT X.kw (dNot ta)) := ptWeak (pt_not h) sem_not
theorem pwWeak {X : Cx} {e : Expr} {t t' : TT} (h : PW X e t) (w : ∀ σ H Q, t' σ H Q → t σ H Q) : PW X e t' := ⟨fun wh pins s σ H Q I q => h.run wh pins s σ H Q I (w σ H Q q)⟩
theorem wand1 (h : PT X a (tSemT X.kw ta)) : PW X (.BoolOp .And [a] pos) (tSemT X.kw ta) := pw_and1 h
theorem wor1 (h : PT X a (tSemT X.kw ta)) : PW X (.BoolOp .Or [a] pos) (tSemT X.kw ta) := pw_or1 h
theorem wand (h : PT X a (tSemT X.kw ta)) (h2 : PW X (.BoolOp .And (b :: rest) pos) (tSemT X.kw tb)) : PW X (.BoolOp .And (a :: b :: rest) pos) (tSemT X.kw (dAnd ta tb)) := pwWeak (pw_and h h2) sem_and
theorem wor (h : PT X a (tSemT X.kw ta)) (h2 : PW X (.BoolOp .Or (b :: rest) pos) (tSemT X.kw tb)) : PW X (.BoolOp .Or (a :: b :: rest) pos) (tSemT X.kw (dOr ta tb)) := pwWeak (pw_or h h2) sem_or
theorem twp (h : PW X a (tSemT X.kw ta)) : PT X a (tSemT X.kw ta) := h.pt
theorem evone {op} (h : PE X a (tSem X.kw fa)) : PE X (.BoolOp op [a] pos) (tSem X.kw fa) := pe_one h
theorem evand (h : PE X a (tSem X.kw fa)) (h2 : PE X (.BoolOp .And (b :: rest) pos) (tSem X.kw fb)) : PE X (.BoolOp .And (a :: b :: rest) pos) (tSem X.kw (dAndV fa fb)) := peWeak (pe_andT h h2) sem_andV
theorem eife (hc : PT X c (tSemT X.kw ta)) (ha : PE X a (tSem X.kw fa)) (hb : PE X b (tSem X.kw fb)) : PE X (.IfExp c a b pos) (tSem X.kw (dIfE ta fa fb)) := peWeak (pe_ifExp hc ha hb) sem_ifE
theorem tch {op op' : CmpOp} {g g' : D → D → Option Bool} (ho : OpR X (compareOp op) (rG X.kw (gB g))) (ho' : OpR X (compareOp op') (rG X.kw (gB g'))) (ha : PE X a (tSem X.kw fa)) (hb : PE X b (tSem X.kw fb)) (hc : PE X c (tSem X.kw fc))
    (hm : lastMarks [op, op'] [b, c] = false := by with_unfolding_all rfl) : PT X (.Compare a [op, op'] [b, c] pos) (tSemT X.kw (dChainT g g' fa fb fc)) := ptWeak (pt_chain ho ho' ha hb hc hm) sem_chainT
end
end
end DL
namespace DL
open PySem PySem.Spec PyProof.Rows L2
section
variable {K : KW} {F H F' H' : Hp} {σ σ' : SS} {ρ ρ' : List Sl}
/-! ### isinstance -/
def tyN : D → String
  | .none => "NoneType"
  | .bool _ => "bool"
  | .int _ => "int"
  | .str _ => "str"
  | .list _ => "list"
  | .tuple _ => "tuple"
  | .dict _ => "dict"
inductive Ty where
  | bool | int | str | list | tuple | dict
def Ty.nm : Ty → String
  | .bool => "bool"
  | .int => "int"
  | .str => "str"
  | .list => "list"
  | .tuple => "tuple"
  | .dict => "dict"
def isT : Ty → D → Bool
  | .bool, .bool _ => true
  | .int, .bool _ => true
  | .int, .int _ => true
  | .str, .str _ => true
  | .list, .list _ => true
  | .tuple, .tuple _ => true
  | .dict, .dict _ => true
  | _, _ => false
theorem kit_isT (T : Ty) (d : D) : PySem.W.kitOne K (.type (tyN d)) (.type T.nm) = some (isT T d) := by
  cases T <;> cases d <;> (refine kit_ty ?_; simp only [tyN, Ty.nm, isT]; decide +kernel)
def okTy : D → Bool
  | .dict ds => isK ds
  | _ => true
theorem Vw.ty {v : V} {d : D} (s : Same F H) (h : Vw K F H v d) (g : okTy d = true) : TyX K H v (.type (tyN d)) := by
  rcases h with h | ⟨a, rfl, o⟩
  · cases h with
    | non => exact .base .non
    | bl b => exact .base (.bl b)
    | int i => exact .base (.int i)
    | str x => exact .base (.str x)
    | lst h r =>
      rcases rd_mono s h with h | ⟨o, h⟩
      · exact .base (.lst h)
      · exact .base (.frz h)
    | tup h r =>
      rcases sqT_mono s h.sq with (h | ⟨o, h⟩) | ⟨o, its, n, h, hc, _⟩
      · exact .base (.tup h)
      · exact .fTuple h
      · exact .kTuple h hc
    | dct h r =>
      rcases rd_mono s h with h | ⟨o, h⟩
      · exact .base (.dK h)
      · exact .fDict h
    | tdct h r r2 => exact absurd g (by simp [okTy, isK_tag])
  · cases d with
    | list ds => obtain ⟨vs, e, r⟩ := o; exact .base (.lst e)
    | dict ds =>
      rcases o with ⟨vs, e, r⟩ | ⟨_, _, _, _, _, rfl⟩
      · exact .base (.dK e)
      · exact absurd g (by simp [okTy, isK_tag])
    | _ => exact o.elim
def isTO (T : Ty) (d : D) : Option Rs := if okTy d = true then some (.fz (.bool (isT T d))) else none
def dIsi (T : Ty) (f : M Rs) : M Rs := bd f fun r => bd (look r) fun d => opt (isTO T d)
theorem sem_isi {T : Ty} {f : M Rs} : ∀ σ H Q, tSem K (dIsi T f) σ H Q → tCB (rIsi K) (tCons (tSem K f) (tCons (tC (.ty T.nm)) tNil)) σ H Q := fun σ H Q ⟨F, ρ, res, ρ', s, e, k⟩ => by
  obtain ⟨ra, ρ1, e1, e⟩ := bd_ok e
  obtain ⟨d, ρ2, e2, e⟩ := bd_ok e
  obtain ⟨eg, e4⟩ := opt_ok e
  unfold isTO at eg
  split at eg
  case isFalse => cases eg
  case isTrue hg =>
  cases eg
  subst e4
  refine ⟨F, ρ, ra, ρ1, s, e1, fun F1 H1 v x1 q1 => ?_⟩
  obtain ⟨z, w⟩ := look_ok x1.st q1 e2
  subst z
  exact ⟨v, .ty T.nm, _, .type T.nm, isT T d, rfl, .ty _, w.ty x1.st.le hg, kit_isT T d, k F1 H1 _ x1 (.bl _)⟩
section
variable {X : Cx} {a : Expr} {f : M Rs} {pos p1 p2 : Pos}
theorem eisi (T : Ty) {x : Str} (hg : Gl X "isinstance") (hm : X.mg "isinstance" = none) (hg2 : Gl X x) (hm2 : X.mg x = none) (hx : bootBuiltins x = some (.type T.nm)) (ha : PE X a (tSem X.kw f)) (hn : x ≠ "__name__" := by decide) (hd : (x == ("__debug__" : Str)) = false := by decide)
    (h0 : starEach [a, .Name x p2] X.env = (false, eval a X.env) :: starEach [.Name x p2] X.env := by rfl) (h1 : starEach [.Name x p2] X.env = (false, eval (.Name x p2) X.env) :: starEach [] X.env := by rfl)
    (hpl : (backTo pos (starEach [.Name x p2] X.env)).any (·.1) = false := by rfl) :
    PE X (.Call (.Name "isinstance" p1) [a, .Name x p2] [] pos) (tSem X.kw (dIsi T f)) :=
  peWeak (pe_callB call_isi hg hm (by rfl) (pa_cons ha (pa_cons (pe_bltn hg2 hm2 hx (v := .ty T.nm) rfl hn hd) pa_nil h1) h0) (by decide) (by decide) h0 hpl) sem_isi
end
/-! ### methods that change nothing -/
def dMe (c : D → Bool) (g : D → List D → Option Rs) (fo : M Rs) (fa : M (List Rs)) : M Rs := bd fo fun ro => bd (look ro) fun d0 => if c d0 = true then bd fa fun rs => bd (look ro) fun d => bd (lookA rs) fun ds => opt (g d ds) else fun _ => .bad
theorem sem_me {T : String} {c : D → Bool} {g : D → List D → Option Rs} {fo : M Rs} {fa : M (List Rs)} (hc : ∀ F H v d, Same F H → c d = true → Vw K F H v d → tyV K T v H) :
    ∀ σ H Q, tSem K (dMe c g fo fa) σ H Q → tBM K T (rGM K g) (tSem K fo) (tSemA K fa) σ H Q := fun σ H Q ⟨F, ρ, res, ρ', s, e, k⟩ => by
  obtain ⟨ro, ρ1, e1, e⟩ := bd_ok e
  obtain ⟨d0, ρ2, e2, e⟩ := bd_ok e
  split at e
  case isFalse => cases e
  case isTrue h0 =>
  obtain ⟨rs, ρ3, e3, e⟩ := bd_ok e
  obtain ⟨d, ρ4, e4, e⟩ := bd_ok e
  obtain ⟨ds, ρ5, e5, e⟩ := bd_ok e
  obtain ⟨eg, e6⟩ := opt_ok e
  refine ⟨F, ρ, ro, ρ1, s, e1, fun F1 H1 v x1 q1 => ?_⟩
  obtain ⟨z2, w2⟩ := look_ok x1.st q1 e2
  subst z2
  refine ⟨hc F1 H1 v d0 x1.st.le h0 w2, F1, ρ2, rs, ρ3, x1.st, e3, fun F2 H2 vs x2 q2 => ?_⟩
  obtain ⟨z4, w4⟩ := look_ok x2.st (q1.ext x2) e4
  subst z4
  obtain ⟨z5, w5⟩ := lookA_ok x2.st q2 e5
  subst z5
  subst e6
  refine ⟨F2, d, ds, res, x2.st.le, w4, w5, eg, fun F3 H3 w g hr => ?_⟩
  exact k F3 H3 w ((x1.trans x2).trans (x2.st.grow g)) (x2.st.res g hr fun a z => (x1.trans x2).back z)
def isStr : D → Bool
  | .str _ => true
  | _ => false
theorem vy_str : ∀ F H v d, Same F H → isStr d = true → Vw K F H v d → tyV K "str" v H := fun F H v d s h w => by
  cases d with
  | str x => rw [w.str]; rfl
  | _ => cases h
section
variable {X : Cx}
variable {o e : Expr} {es : List Expr} {name : Str} {apos cpos : Pos} {T id : String} {f : M (List Rs)} {fo : M Rs} {c : D → Bool} {g : D → List D → Option Rs}
theorem eme (pa : PlainAttrs T) (slot : Slot T name id) (hty : typeOf (.builtin id) = pure (.type "method_descriptor")) (hm : MtR X id (rGM X.kw g)) (hc : ∀ F H v d, Same F H → c d = true → Vw X.kw F H v d → tyV X.kw T v H) (ho : PE X o (tSem X.kw fo)) (ha : PA X (e :: es) (tSemA X.kw f))
    (hbase : attributeBase o name X.env (eval o X.env) = eval o X.env := by rfl)
    (hfew : ((backTo cpos (starEach (e :: es) X.env)).all (fun x => !x.1) && (backToKw cpos (keywordEach [] X.env)).all (fun x => x.1.isSome)
      && decide ((e :: es).length + ([] : List Keyword).length + (if ([] : List Keyword).isEmpty then 0 else 1) < 30)) = true := by rfl)
    (hline : (apos.endLine == cpos.line) = true := by rfl) (hs : starEach (e :: es) X.env = (false, eval e X.env) :: starEach es X.env := by rfl) (hplain : (backTo cpos (starEach es X.env)).any (·.1) = false := by rfl) :
    PE X (.Call (.Attribute o name apos) (e :: es) [] cpos) (tSem X.kw (dMe c g fo f)) := peWeak (pe_bm pa slot hty hm ho ha hbase hfew hline hs hplain) (sem_me hc)
end
/-! ### o[i] = v, o[i] op= v, name op= v -/
def gGet : D → D → Option D
  | .list ds, .int i => atI ds i
  | .dict kvs, k => if isK kvs = true then (keyOf k).bind fun k => dget k kvs else none
  | _, _ => none
def gPut : D → D → D → Option D
  | .list ds, .int i, d => (ixN ds.length i).map fun j => .list (ds.set j d)
  | .dict kvs, k, d => if isK kvs = true ∧ kvs.length < sizeLine then (keyOf k).map fun k => .dict (dput k d kvs) else none
  | _, _, _ => none
def tgGet (K : KW) : V → V → Hp → VK → Prop := fun o i H Q => ∃ F a d k dr, Same F H ∧ o = .ref a ∧ Ob K F H a d ∧ i = kV k ∧ gGet d (kD k) = some dr ∧ ∀ v, Rp K F v dr → Q v H
def tgPut (K : KW) : TSet := fun o i v H Q => ∃ F a d k dv d', Same F H ∧ F a = none ∧ o = .ref a ∧ Ob K F H a d ∧ i = kV k ∧ Rp K F v dv ∧ gPut d (kD k) dv = some d' ∧ ∀ o', Ob K F (upd H a o') a d' → Q (upd H a o')
section
variable {X : Cx}
theorem keyOf_kD (k : Key) : keyOf (kD k) = some k := by cases k <;> rfl
theorem get_ok (hu : X.A.units + 1 < cLine) : PGet X (tgGet X.kw) := by
  intro pins s σ H o i ov iv Q I ro ri ⟨F, a, d, k, dr, sm, eo, ob, ei, e, q⟩
  subst eo; subst ei
  cases ro
  unfold gGet at e
  split at e
  · rename_i ds j ek
    cases k with
    | inr x => cases ek
    | inl j' =>
      cases ek
      obtain ⟨vs, hl, ra⟩ := ob
      obtain ⟨z, e2, rz⟩ := rpA_atI ra e
      obtain ⟨t, rfl⟩ := ri
      obtain ⟨its, r, pl, hz⟩ := I.list (.inl (.inl hl) : SqL X.kw H a vs)
      obtain ⟨j2, h1, h2, h3, h4, h5⟩ := atI_get e2
      obtain ⟨w, ew, rw'⟩ := r.get h2
      have hl2 := r.length
      have hn := line63
      have fin : EP X pins σ Q w s := ⟨z, H, I, rw', q _ rz⟩
      by_cases h0 : 0 ≤ j
      · have hj : j.toNat = j2 := by
          rw [seqIndex_of h0 h5] at h1
          exact Option.some.inj h1
        exact wpAny_getItem_list pl.isList h0 (by omega) (by rw [hj]; simpa using ew) fin
      · have hj : (j + (its.toArray.size : Int)).toNat = j2 := by
          rw [seqIndex_neg (by omega) h4] at h1
          rw [List.size_toArray, ← hl2]
          exact Option.some.inj h1
        exact wpAny_getItem_list_neg pl.isList (by omega) (by rw [List.size_toArray] <;> omega) (by omega) (by rw [hj]; simpa using ew) fin
  · rename_i kvs
    split at e
    case isFalse => cases e
    case isTrue hkk =>
    rw [keyOf_kD] at e
    obtain ⟨vs, hl, ra⟩ := ob.asK hkk
    obtain ⟨z, e2, rz⟩ := (rpK_get ra).1 dr e
    have g : DGet H a (kV k) (some z) := e2 ▸ DGet.k hl
    exact d_getItem hu I g ri fun w' s3 I3 rw' => ⟨z, H, I3, rw', q _ rz⟩
  · cases e
theorem put_ok (hu : X.A.units + 1 < cLine) : PSet X (tgPut X.kw) := by
  intro pins s σ H o i v ov iv u Q I ro ri rv ⟨F, a, d, k, dv, d', sm, fn, eo, ob, ei, rp, e, q⟩
  subst eo; subst ei
  unfold gPut at e
  split at e
  · rename_i ds j ek
    cases k with
    | inr x => cases ek
    | inl j' =>
      cases ek
      obtain ⟨vs, hl, ra⟩ := ob
      obtain ⟨j2, e2, rfl⟩ := opt_map e
      exact set_list pins s σ H _ _ v ov iv u Q I ro ri rv ⟨a, vs, j, j2, rfl, rfl, hl, by rw [ra.length]; exact e2, q _ ⟨_, upd_same, RpA.set (i := 0) rp j2 ra⟩⟩
  · split at e
    case isFalse => cases e
    case isTrue hlen =>
    rw [keyOf_kD] at e
    cases e
    obtain ⟨vs, hl, ra⟩ := ob.asK hlen.1
    exact set_dict hu pins s σ H _ _ v ov iv u Q I ro ri rv ⟨a, _, rfl, DPut.k hl (by rw [ra.length]; exact hlen.2), q _ (.inl ⟨_, upd_same, rpK_put ra rp⟩)⟩
  · cases e
end
end
end DL
namespace DL
open PySem PySem.Spec PyProof.Rows L2
variable {Wx : WX}
section
variable {K : KW} {F H F' H' : Hp} {σ σ' : SS} {ρ ρ' : List Sl} {P : Nat → Prop}
/-! ### stores at items -/
def dKey (f : M Rs) : M Key := bd f fun r => bd (look r) fun d => opt (keyOf d)
/-- x[i] = e -/
def dPut (i : Nat) (fi fe : M Rs) : DS := fun ρ => match bd fe frz ρ with
  | .bad => .bad none
  | .ok dv ρ1 => match ρ1[i]? with
    | some (.ow _) => match dKey fi ρ1 with
      | .bad => .bad none
      | .ok k ρ2 => match ρ2[i]? with
        | some (.ow d) => match gPut d (kD k) dv with
          | some d' => .nx (ρ2.set i (.ow d'))
          | none => .bad none
        | _ => .bad none
    | _ => .bad none
/-- x[i] op= e -/
def dAugS (g : G2) (i : Nat) (fi fe : M Rs) : DS := fun ρ => match ρ[i]? with
  | some (.ow _) => match dKey fi ρ with
    | .bad => .bad none
    | .ok k ρ1 => match ρ1[i]? with
      | some (.ow d1) => match gGet d1 (kD k) with
        | none => .bad none
        | some old => match bd fe look ρ1 with
          | .bad => .bad none
          | .ok dv ρ2 => match g old dv with
            | some (.fz dn) => match ρ2[i]? with
              | some (.ow d2) => match gPut d2 (kD k) dn with
                | some d' => .nx (ρ2.set i (.ow d'))
                | none => .bad none
              | _ => .bad none
            | _ => .bad none
      | _ => .bad none
  | _ => .bad none
/-- x op= e -/
def dAug (g : G2) (i : Nat) (fe : M Rs) : DS := fun ρ => match ρ[i]? with
  | some (.fz d) => match bd fe look ρ with
    | .bad => .bad none
    | .ok dv ρ1 => match g d dv with
      | some (.fz dn) => if i < ρ1.length then .nx (ρ1.set i (.fz dn)) else .bad none
      | _ => .bad none
  | _ => .bad none
theorem key_ok {f : M Rs} {k : Key} (h : dKey f ρ = .ok k ρ') (s : Sta K F H σ ρ) : ∃ r ρ1, f ρ = .ok r ρ1 ∧ ∀ F' H' v, Sta K F' H' σ ρ1 → RsR K H F' H' σ ρ1 v r → ρ' = ρ1 ∧ v = kV k := by
  obtain ⟨r, ρ1, e1, e⟩ := bd_ok h
  obtain ⟨d, ρ2, e2, e⟩ := bd_ok e
  obtain ⟨e3, e4⟩ := opt_ok e
  refine ⟨r, ρ1, e1, fun F' H' v s' q => ?_⟩
  obtain ⟨z, w⟩ := look_ok s' q e2
  subst z
  exact ⟨e4.symm ▸ rfl, w.key e3⟩
theorem sem_augS {g : G2} {i : Nat} {fi fe : M Rs} : ∀ D σ H, tSemS K Wx P (dAugS g i fi fe) D σ H → tAugS (tVar i) (tSem K fi) (tSem K fe) (tgGet K) (rG K g) (tgPut K) D σ H := fun D σ H ⟨F, ρ, s, h⟩ => by
  unfold dAugS at h
  cases q0 : ρ[i]? with
  | none => simp only [q0] at h; exact h.elim
  | some sl =>
    cases sl with
    | em => simp only [q0] at h; exact h.elim
    | fz _ => simp only [q0] at h; exact h.elim
    | lk _ => simp only [q0] at h; exact h.elim
    | ow d0 =>
      simp only [q0] at h
      cases ek : dKey fi ρ with
      | bad => simp only [ek] at h; exact h.elim
      | ok k ρ1 =>
        simp only [ek] at h
        cases q1 : ρ1[i]? with
        | none => simp only [q1] at h; exact h.elim
        | some sl2 =>
          cases sl2 with
          | em => simp only [q1] at h; exact h.elim
          | fz _ => simp only [q1] at h; exact h.elim
          | lk _ => simp only [q1] at h; exact h.elim
          | ow d1 =>
            simp only [q1] at h
            cases eg : gGet d1 (kD k) with
            | none => simp only [eg] at h; exact h.elim
            | some old =>
              simp only [eg] at h
              cases ev : bd fe look ρ1 with
              | bad => simp only [ev] at h; exact h.elim
              | ok dv ρ2 =>
                simp only [ev] at h
                obtain ⟨r, ρ0, e1, e2⟩ := bd_ok ev
                cases eo : g old dv with
                | none => simp only [eo] at h; exact h.elim
                | some rs =>
                  cases rs with
                  | ow _ => simp only [eo] at h; exact h.elim
                  | nm _ => simp only [eo] at h; exact h.elim
                  | fz dn =>
                    simp only [eo] at h
                    cases q2 : ρ2[i]? with
                    | none => simp only [q2] at h; exact h.elim
                    | some sl3 =>
                      cases sl3 with
                      | em => simp only [q2] at h; exact h.elim
                      | fz _ => simp only [q2] at h; exact h.elim
                      | lk _ => simp only [q2] at h; exact h.elim
                      | ow d2 =>
                        simp only [q2] at h
                        cases ep : gPut d2 (kD k) dn with
                        | none => simp only [ep] at h; exact h.elim
                        | some d' =>
                          simp only [ep] at h
                          obtain ⟨a, ea, _, _⟩ := s.sl i _ q0
                          obtain ⟨rk, ρ3, e3, hk⟩ := key_ok ek s
                          refine ⟨.ref a, ea, F, ρ, rk, ρ3, s, e3, fun F1 H1 w x1 q3 => ?_⟩
                          obtain ⟨z, ew⟩ := hk F1 H1 w x1.st q3
                          subst z; subst ew
                          obtain ⟨b, eb, hf, ho⟩ := x1.st.sl i _ q1
                          rw [ea] at eb; cases eb
                          refine ⟨F1, a, d1, k, old, x1.st.le, rfl, ho, rfl, eg, fun x rx => ⟨F1, ρ1, r, ρ0, x1.st, e1, fun F2 H2 y x2 ry => ?_⟩⟩
                          obtain ⟨z, wy⟩ := look_ok x2.st ry e2
                          subst z
                          refine ⟨F2, old, dv, .fz dn, x2.st.le, .inl (rx.mono x2.fr), wy, eo, fun F3 H3 nv gr hr => ?_⟩
                          have x3 := x2.st.grow gr
                          have xx := (x1.trans x2).trans x3
                          obtain ⟨b, eb, hf3, ho3⟩ := xx.st.sl i _ q2
                          rw [ea] at eb; cases eb
                          exact ⟨F3, a, d2, k, dn, d', xx.st.le, hf3, rfl, ho3, rfl, hr, ep, fun o' ob => h F3 _ σ (xx.updSlot ea q2 ob) Prot.refl⟩
theorem sem_aug {g : G2} {i : Nat} {fe : M Rs} (hP : ¬ P i) : ∀ D σ H, tSemS K Wx P (dAug g i fe) D σ H → tAug i (tSem K fe) (rG K g) D σ H := fun D σ H ⟨F, ρ, s, h⟩ => by
  unfold dAug at h
  cases q0 : ρ[i]? with
  | none => simp only [q0] at h; exact h.elim
  | some sl =>
    cases sl with
    | em => simp only [q0] at h; exact h.elim
    | ow _ => simp only [q0] at h; exact h.elim
    | lk _ => simp only [q0] at h; exact h.elim
    | fz d =>
      simp only [q0] at h
      cases ev : bd fe look ρ with
      | bad => simp only [ev] at h; exact h.elim
      | ok dv ρ1 =>
        simp only [ev] at h
        obtain ⟨r, ρ0, e1, e2⟩ := bd_ok ev
        cases eo : g d dv with
        | none => simp only [eo] at h; exact h.elim
        | some rs =>
          cases rs with
          | ow _ => simp only [eo] at h; exact h.elim
          | nm _ => simp only [eo] at h; exact h.elim
          | fz dn =>
            simp only [eo] at h
            split at h
            case isFalse => exact h.elim
            case isTrue hi =>
            obtain ⟨x, ex, rx⟩ := s.sl i _ q0
            refine ⟨x, ex, F, ρ, r, ρ0, s, e1, fun F1 H1 y x1 ry => ?_⟩
            obtain ⟨z, wy⟩ := look_ok x1.st ry e2
            subst z
            refine ⟨F1, d, dv, .fz dn, x1.st.le, .inl (rx.mono x1.fr), wy, eo, fun F2 H2 nv gr hr => ?_⟩
            exact h F2 H2 _ ((x1.trans (x1.st.grow gr)).setSlot hi (.inl ⟨dn, rfl, hr⟩)) (prot_set hP)
def gIAdd : G2
  | .int i, .int j => some (.fz (.int (i + j)))
  | .str i, .str j => if i.length + j.length ≤ sizeLine then some (.fz (.str (i ++ j))) else none
  | _, _ => none
def gISub : G2
  | .int i, .int j => some (.fz (.int (i - j)))
  | _, _ => none
section
variable {X : Cx} {o e ie : Expr} {fi fe : M Rs} {pos tpos : Pos} {i : Nat}
theorem pAdd : PIp X .Add (rG X.kw gIAdd) := by
  intro pins s σ H x y v u Q I rx ry ⟨F, dx, dy, res, sm, hx, hy, e, q⟩
  unfold gIAdd at e
  split at e
  · cases e
    exact ip_add pins s σ H x y v u Q I rx ry ⟨_, _, hx.int, hy.int, q.same sm (.int _)⟩
  · split at e
    case isFalse => cases e
    case isTrue hl => cases e; exact iop_add_str pins s σ H x y v u Q I rx ry ⟨_, _, hx.str, hy.str, hl, q.same sm (.str _)⟩
  · cases e
theorem saugs {op : Operator} {g : G2} (hu : X.A.units + 1 < cLine) (hp : PIp X op (rG X.kw g)) (ho : PE X o (tVar i)) (hi : PE X ie (tSem X.kw fi)) (he : PE X e (tSem X.kw fe))
    (ha : ∀ ov iv new, augStore ie ov iv new = (do holding [new, ov, iv] (setItem ov iv new); release [new, ov, iv] []; pure .next) := by intros; rfl) : PS X (.AugAssign (.Subscript o ie tpos) op e pos) (tSemS X.kw Wx P (dAugS g i fi fe)) :=
  psWeak (ps_augS ho hi (get_ok hu) he hp (put_ok hu) ha) sem_augS
theorem saug {op : Operator} {g : G2} {x : Str} {pos' : Pos} (hP : ¬ P i) (hp : PIp X op (rG X.kw g)) (hN : X.N.Nodup) (hi : X.N[i]? = some x) (hx : Loc X.env.scope x) (he : PE X e (tSem X.kw fe)) (hf : X.fn x = true ∨ X.env.scope.names.lookup x = some .local := by first | exact .inl rfl | exact .inr rfl | assumption) :
    PS X (.AugAssign (.Name x pos') op e pos) (tSemS X.kw Wx P (dAug g i fe)) := psWeak (ps_aug hN hi hx he hp hf) (sem_aug hP)
end
/-! ### dicts laid -/
theorem Ext.updNew {F₀ H₀ : Hp} {σ₀ : SS} {ρ₀ : List Sl} {a : Addr} {o : HO} (x : Ext K F₀ H₀ σ₀ ρ₀ F H σ ρ) (h0 : H₀ a = none) (hf : F a = none) (hn : ∀ i, ¬ HdAt σ ρ i a) : Ext K F₀ H₀ σ₀ ρ₀ F (upd H a o) σ ρ := by
  refine ⟨⟨fun b u e => ?_, x.st.len, fun j s q => ?_, x.st.dj⟩, x.fr, fun b u e n => ?_, x.nf, fun b e => ?_, x.ow, x.lk⟩
  · have hb : b ≠ a := fun z => by subst z; rw [hf] at e; cases e
    rw [upd_ne hb]; exact x.st.le b u e
  · have z := x.st.sl j s q
    cases s with
    | em => trivial
    | fz d => exact z
    | ow d =>
      obtain ⟨b, e1, e2, e3⟩ := z
      have hb : b ≠ a := fun z => by subst z; exact hn j (.inl ⟨e1, d, q⟩)
      exact ⟨b, e1, e2, e3.mono (Same.refl _) (upd_ne hb)⟩
    | lk d =>
      obtain ⟨b, e1, e2, e3⟩ := z
      have hb : b ≠ a := fun z => by subst z; exact hn j (.inr ⟨e1, d, q⟩)
      exact ⟨b, e1, e2, e3.mono (Same.refl _) (upd_ne hb)⟩
  · have hb : b ≠ a := fun z => by subst z; rw [h0] at e; cases e
    rw [upd_ne hb]; exact x.kp b u e n
  · by_cases hb : b = a
    · subst hb; rw [upd_same]; exact fun z => nomatch z
    · rw [upd_ne hb]; exact x.gr b e
def dPairs : List (M Rs × M Rs) → M (List (Key × Rs))
  | [] => pr []
  | p :: ps => bd (dKey p.1) fun k => bd p.2 fun r => bd (dPairs ps) fun rs => pr ((k, r) :: rs)
def dDisp (ps : List (M Rs × M Rs)) : M Rs := bd (dPairs ps) fun krs => bd (frzA (krs.map (·.2))) fun ds => if krs.length ≤ 15 then pr (.ow (.dict ((List.zip (krs.map (·.1)) ds).foldl (fun acc kv => dput kv.1 kv.2 acc) []))) else fun _ => .bad
theorem RsA.cons {H₀ : Hp} {v : V} {r : Rs} {vs : List V} {rs : List Rs} {F1 H1 : Hp} {ρ1 : List Sl} (q1 : RsR K H₀ F1 H1 σ ρ1 v r) (x2 : Ext K F1 H1 σ ρ1 F H σ ρ) (q2 : RsA K H1 F H σ ρ vs rs) (b : ∀ a, H1 a = none → H₀ a = none) : RsA K H₀ F H σ ρ (v :: vs) (r :: rs) := by
  refine ⟨by rw [List.length_cons, List.length_cons, q2.len], fun i w r' h1 h2 => ?_, fun i j a d e h1 h2 h3 h4 => ?_⟩
  · cases i with
    | zero => simp at h1 h2; subst h1; subst h2; exact q1.ext x2
    | succ i => exact (q2.at_ i w r' (by simpa using h1) (by simpa using h2)).base b
  · have cross : ∀ (j : Nat) (a : Addr) (d e : D), v = .ref a → r = .ow d → vs[j]? = some (.ref a) → rs[j]? = some (.ow e) → False := fun j' a' d' e' g1 g2 g3 g4 => by
      rw [g2] at q1
      obtain ⟨b, eb, _, _, ob, _⟩ := q1
      obtain ⟨c, ec, hc, _⟩ := q2.at_ j' _ _ g3 g4
      rw [g1] at eb
      cases eb
      cases ec
      exact ob.ne hc
    cases i with
    | zero =>
      cases j with
      | zero => rfl
      | succ j => simp at h1 h2; exact (cross j a d e h1 h2 (by simpa using h3) (by simpa using h4)).elim
    | succ i =>
      cases j with
      | zero => simp at h3 h4; exact (cross i a e d h3 h4 (by simpa using h1) (by simpa using h2)).elim
      | succ j => rw [q2.dj i j a d e (by simpa using h1) (by simpa using h2) (by simpa using h3) (by simpa using h4)]
theorem sem_pairs : ∀ {ps : List (M Rs × M Rs)} {F H : Hp} {ρ ρ' : List Sl} {krs : List (Key × Rs)} {Q : List (V × V) → Hp → Prop}, Sta K F H σ ρ → dPairs ps ρ = .ok krs ρ' →
    (∀ F' H' vs, Ext K F H σ ρ F' H' σ ρ' → RsA K H F' H' σ ρ' vs (krs.map (·.2)) → Q (List.zip (krs.map fun p => kV p.1) vs) H') → tPairs (ps.map fun p => (tSem K p.1, tSem K p.2)) σ H Q
  | [], F, H, ρ, ρ', krs, Q, s, e, k => by
    cases e
    exact k F H [] (Ext.refl s) ⟨rfl, fun i v r h => by simp at h, fun i j a d e h => by simp at h⟩
  | p :: ps, F, H, ρ, ρ', krs, Q, s, e, k => by
    obtain ⟨kk, ρ1, e1, e⟩ := bd_ok e
    obtain ⟨r, ρ2, e2, e⟩ := bd_ok e
    obtain ⟨rs, ρ3, e3, e⟩ := bd_ok e
    obtain ⟨e4, e5⟩ := pr_ok e
    subst e4; subst e5
    obtain ⟨rk, ρ4, e6, hk⟩ := key_ok e1 s
    refine ⟨F, ρ, rk, ρ4, s, e6, fun F1 H1 w x1 q1 => ?_⟩
    obtain ⟨z, ew⟩ := hk F1 H1 w x1.st q1
    subst z; subst ew
    refine ⟨F1, ρ1, r, ρ2, x1.st, e2, fun F2 H2 y x2 q2 => sem_pairs x2.st e3 fun F3 H3 vs x3 q3 => ?_⟩
    exact k F3 H3 (y :: vs) ((x1.trans x2).trans x3) (RsA.cons (q2.base fun a z => x1.back z) x3 q3 fun a z => (x1.trans x2).back z)
theorem fold_put {kvs : List (Key × V)} {ds : List (Key × D)} (h : Paired (fun p q => p.1 = q.1 ∧ Rp K F p.2 q.2) kvs ds) : ∀ {acc : List (Key × V)} {dac : List (D × D)}, RpK K F acc dac → RpK K F (kvs.foldl (fun acc kv => putK acc kv.1 kv.2) acc) (ds.foldl (fun acc kv => dput kv.1 kv.2 acc) dac) := by
  induction h with
  | nil => intro _ _ h; exact h
  | cons a b ih =>
    intro acc dac q
    obtain ⟨a1, a2⟩ := a
    refine ih ?_
    show RpK K F (putK acc _ _) (dput _ _ dac)
    rw [← a1]
    exact rpK_put q a2
theorem zip_pair : ∀ {ks : List Key} {vs : List V} {ds : List D}, RpA K F vs ds → Paired (fun (p : Key × V) (q : Key × D) => p.1 = q.1 ∧ Rp K F p.2 q.2) (ks.zip vs) (ks.zip ds)
  | [], _, _, _ => .nil
  | _ :: _, _, _, .nil => .nil
  | k :: ks, _, _, .cons r t => .cons ⟨rfl, r⟩ (zip_pair t)
theorem zip_kV : ∀ (krs : List (Key × Rs)) (vs : List V), List.zip (krs.map fun p => kV p.1) vs = (List.zip (krs.map (·.1)) vs).map fun kv => (kV kv.1, kv.2)
  | [], _ => rfl
  | _ :: _, [] => rfl
  | p :: r, v :: vs => by
    rw [List.map_cons, List.map_cons, List.zip_cons_cons, List.zip_cons_cons, List.map_cons, zip_kV r vs]
theorem sem_disp {ps : List (M Rs × M Rs)} : ∀ σ H Q, tSem K (dDisp ps) σ H Q → tDisp (ps.map fun p => (tSem K p.1, tSem K p.2)) σ H Q := fun σ H Q ⟨F, ρ, res, ρ', s, e, k⟩ p hp => by
  obtain ⟨krs, ρ1, e1, e⟩ := bd_ok e
  obtain ⟨ds, ρ2, e2, e⟩ := bd_ok e
  split at e
  case isFalse => cases e
  case isTrue h15 =>
  obtain ⟨e3, e4⟩ := pr_ok e
  subst e3; subst e4
  have fp : F p = none := s.le.free hp
  have x0 : Ext K F H σ ρ F (upd H p (.dK [])) σ ρ := s.grow ⟨Same.refl _, s.le.trans (same_upd hp), same_upd hp, fun _ _ e => e⟩
  refine sem_pairs x0.st e1 fun F1 H1 vs x1 q1 => ?_
  have nh : ∀ i, ¬ HdAt σ ρ i p := fun i z => by
    obtain ⟨_, d, o⟩ := s.held z
    exact o.ne hp
  have hp1 : H1 p = some (.dK []) := x1.kp p _ upd_same fun i z => nh i (.inl z)
  obtain ⟨F2, x2, rpa, sm2⟩ := frzA_ok x1 q1 e2
  have xx := x0.trans x2
  have fp2 : F2 p = none := x2.nf p (by rw [upd_same]; exact fun z => nomatch z) nh fp
  have nh2 : ∀ i, ¬ HdAt σ ρ' i p := fun i z => by
    rcases x2.hd z with y | y
    · exact nh i y
    · rw [upd_same] at y; cases y
  refine ⟨hp1, List.zip (krs.map (·.1)) vs, zip_kV krs vs, ?_, ?_⟩
  · rw [List.length_zip, List.length_map]; omega
  · refine k F2 _ _ (xx.updNew hp fp2 nh2) ⟨p, rfl, hp, fp2, .inl ⟨_, upd_same, ?_⟩, nh2⟩
    exact fold_put (zip_pair rpa) .nil
def dNew : M Rs := pr (.ow (.dict []))
section
variable {X : Cx} {pos : Pos}
theorem edi {keys : List (Option Expr)} {values : List Expr} {ps : List (M Rs × M Rs)} (h : PPs X pos keys values (ps.map fun p => (tSem X.kw p.1, tSem X.kw p.2))) (hall : keys.all (·.isSome) = true := by rfl) (hl : keys.length = values.length := by rfl) (h0 : keys ≠ [] := by exact fun z => nomatch z)
    (h15 : keys.length ≤ 15 := by decide) : PE X (.Dict keys values pos) (tSem X.kw (dDisp ps)) := peWeak (pe_disp h hall hl h0 h15) sem_disp
end
end
end DL
namespace DL
open PySem PySem.Spec PyProof.Rows L2
variable {Wx : WX}
theorem u1 {k : Nat} {A : Around} (r : Room k A) : A.units + 1 < cLine := by have := r.un; omega
theorem u9 {k : Nat} {A : Around} (r : Room k A) : A.units + 9 < cLine := by have := r.un; omega
theorem u64 {k : Nat} {A : Around} (r : Room k A) : A.units + 64 < cLine := by have := r.un; omega
theorem u65 {k : Nat} {A : Around} (r : Room k A) : A.units + 65 < cLine := by have := r.un; omega
theorem fnok_bad {P : Program} {w : World} {K : PySem.W.Frag} {mg : Str → Option Value} {base : Heap} {CX : CXT} {k : Nat} {f : Addr} {fd : FuncData} {ps : List Str} {n : Nat} : FnOk P w K mg base CX k f fd ps (spD ⟨K, w⟩ n (fun _ => .bad)) := by
  refine ⟨fun vs H Q E h => ?_, fun A outer s H args us vs Q E hr he hb hv hs => ?_⟩
  · obtain ⟨_, F, ρ, r, ρ', s, e, _⟩ := h; cases e
  · obtain ⟨_, F, ρ, r, ρ', s, e, _⟩ := hs; cases e
end DL
/-! DL15: reckoning with the combinators on plain data, no program in sight -/
namespace DL
open PySem L2
/-- what simp is not to go into -/
inductive Tag {α : Type} (a : α) : Type where
  | mk
def vR {α : Type} (r : R α) (Q : α → List Sl → Prop) : Prop := match r with
  | .ok a ρ => Q a ρ
  | .bad => False
def vM {α : Type} (m : M α) (ρ : List Sl) (Q : α → List Sl → Prop) : Prop := vR (m ρ) Q
def vO {α : Type} (o : Option α) (Q : α → Prop) : Prop := match o with
  | some a => Q a
  | none => False
def vS (s : DS) (ρ : List Sl) (N : List Sl → Prop) (T : Rs → List Sl → Prop) (B C : List Sl → Prop) : Prop := match s ρ with
  | .nx ρ' => N ρ'
  | .rt r ρ' => T r ρ'
  | .bk ρ' => B ρ'
  | .ct ρ' => C ρ'
  | .bad _ => False
def nope {α : Type} : α → Prop := fun _ => False
theorem vM_iff {α : Type} {m : M α} {ρ : List Sl} {Q : α → List Sl → Prop} : vM m ρ Q ↔ ∃ a ρ', m ρ = .ok a ρ' ∧ Q a ρ' := by
  unfold vM vR
  constructor
  · intro h
    cases e : m ρ with
    | ok a ρ' => rw [e] at h; exact ⟨a, ρ', rfl, h⟩
    | bad => rw [e] at h; exact h.elim
  · rintro ⟨a, ρ', e, h⟩; rw [e]; exact h
theorem vM_eq {α : Type} {m : M α} {ρ ρ' : List Sl} {a : α} (h : vM m ρ fun b ρ1 => b = a ∧ ρ1 = ρ') : m ρ = .ok a ρ' := by
  obtain ⟨b, ρ1, e, rfl, rfl⟩ := vM_iff.mp h; exact e
theorem vM_mono {α : Type} {m : M α} {ρ : List Sl} {Q Q' : α → List Sl → Prop} (h : vM m ρ Q) (i : ∀ a ρ', Q a ρ' → Q' a ρ') : vM m ρ Q' := by
  obtain ⟨a, ρ', e, h⟩ := vM_iff.mp h; exact vM_iff.mpr ⟨a, ρ', e, i _ _ h⟩
theorem vS_mono {s : DS} {ρ : List Sl} {N N' : List Sl → Prop} {T T' : Rs → List Sl → Prop} {B B' C C' : List Sl → Prop} (h : vS s ρ N T B C) (n : ∀ ρ, N ρ → N' ρ) (t : ∀ r ρ, T r ρ → T' r ρ) (b : ∀ ρ, B ρ → B' ρ) (c : ∀ ρ, C ρ → C' ρ) : vS s ρ N' T' B' C' := by
  unfold vS at h ⊢
  cases e : s ρ <;> rw [e] at h
  · exact n _ h
  · exact t _ _ h
  · exact b _ h
  · exact c _ h
  · exact h
section
variable {α β : Type} {ρ : List Sl} {N : List Sl → Prop} {T : Rs → List Sl → Prop} {B C : List Sl → Prop}
theorem vM_bd {m : M α} {k : α → M β} {Q : β → List Sl → Prop} : vM (bd m k) ρ Q = vM m ρ fun a ρ1 => vM (k a) ρ1 Q := by
  unfold vM bd
  cases m ρ <;> rfl
theorem vM_pr {a : α} {Q : α → List Sl → Prop} : vM (pr a) ρ Q = Q a ρ := rfl
theorem vM_opt {o : Option α} {Q : α → List Sl → Prop} : vM (opt o) ρ Q = vO o fun a => Q a ρ := by cases o <;> rfl
theorem vO_some {a : α} {Q : α → Prop} : vO (some a) Q = Q a := rfl
theorem vM_C {d : D} {Q : Rs → List Sl → Prop} : vM (dC d) ρ Q = Q (.fz d) ρ := rfl
def varK (o : Option Sl) (i : Nat) (ρ : List Sl) (Q : Rs → List Sl → Prop) (_ : Tag Q := .mk) : Prop := match o with
  | some (.fz d) => Q (.fz d) ρ
  | some (.ow _) => Q (.nm i) ρ
  | some (.lk _) => Q (.nm i) ρ
  | _ => False
theorem vM_var {i : Nat} {Q : Rs → List Sl → Prop} : vM (dVar i) ρ Q = varK ρ[i]? i ρ Q := by
  unfold vM dVar varK
  cases ρ[i]? with
  | none => rfl
  | some s => cases s <;> rfl
theorem varK_fz {d : D} {i : Nat} {Q : Rs → List Sl → Prop} : varK (some (.fz d)) i ρ Q = Q (.fz d) ρ := rfl
theorem varK_ow {d : D} {i : Nat} {Q : Rs → List Sl → Prop} : varK (some (.ow d)) i ρ Q = Q (.nm i) ρ := rfl
theorem varK_lk {d : D} {i : Nat} {Q : Rs → List Sl → Prop} : varK (some (.lk d)) i ρ Q = Q (.nm i) ρ := rfl
def lookK (o : Option Sl) (ρ : List Sl) (Q : D → List Sl → Prop) (_ : Tag Q := .mk) : Prop := match o with
  | some (.fz d) => Q d ρ
  | some (.ow d) => Q d ρ
  | some (.lk d) => Q d ρ
  | _ => False
theorem lookK_fz {d : D} {Q : D → List Sl → Prop} : lookK (some (.fz d)) ρ Q = Q d ρ := rfl
theorem lookK_ow {d : D} {Q : D → List Sl → Prop} : lookK (some (.ow d)) ρ Q = Q d ρ := rfl
theorem lookK_lk {d : D} {Q : D → List Sl → Prop} : lookK (some (.lk d)) ρ Q = Q d ρ := rfl
theorem vM_look_fz {d : D} {Q : D → List Sl → Prop} : vM (look (.fz d)) ρ Q = Q d ρ := rfl
theorem vM_look_ow {d : D} {Q : D → List Sl → Prop} : vM (look (.ow d)) ρ Q = Q d ρ := rfl
theorem vM_look_nm {i : Nat} {Q : D → List Sl → Prop} : vM (look (.nm i)) ρ Q = lookK ρ[i]? ρ Q := by
  unfold vM look lookK
  simp only
  cases ρ[i]? with
  | none => rfl
  | some s => cases s <;> rfl
def frzK (o : Option Sl) (i : Nat) (ρ : List Sl) (Q : D → List Sl → Prop) (_ : Tag Q := .mk) : Prop := match o with
  | some (.fz d) => Q d ρ
  | some (.ow d) => Q d (ρ.set i (.fz d))
  | some (.lk d) => Q d (ρ.set i (.fz d))
  | _ => False
theorem frzK_fz {d : D} {i : Nat} {Q : D → List Sl → Prop} : frzK (some (.fz d)) i ρ Q = Q d ρ := rfl
theorem frzK_ow {d : D} {i : Nat} {Q : D → List Sl → Prop} : frzK (some (.ow d)) i ρ Q = Q d (ρ.set i (.fz d)) := rfl
theorem frzK_lk {d : D} {i : Nat} {Q : D → List Sl → Prop} : frzK (some (.lk d)) i ρ Q = Q d (ρ.set i (.fz d)) := rfl
theorem vM_frz_fz {d : D} {Q : D → List Sl → Prop} : vM (frz (.fz d)) ρ Q = Q d ρ := rfl
theorem vM_frz_ow {d : D} {Q : D → List Sl → Prop} : vM (frz (.ow d)) ρ Q = Q d ρ := rfl
theorem vM_frz_nm {i : Nat} {Q : D → List Sl → Prop} : vM (frz (.nm i)) ρ Q = frzK ρ[i]? i ρ Q := by
  unfold vM frz frzK
  simp only
  cases ρ[i]? with
  | none => rfl
  | some s => cases s <;> rfl
theorem vM_op2 {g : G2} {a b : M Rs} {Q : Rs → List Sl → Prop} : vM (dOp2 g a b) ρ Q = vM a ρ fun ra ρ1 => vM b ρ1 fun rb ρ2 => vM (look ra) ρ2 fun da ρ3 => vM (look rb) ρ3 fun db ρ4 => vO (g da db) fun r => Q r ρ4 := by
  unfold dOp2; simp only [vM_bd, vM_opt]
theorem vM_op2T {g : D → D → Option Bool} {a b : M Rs} {Q : Bool → List Sl → Prop} : vM (dOp2T g a b) ρ Q = vM a ρ fun ra ρ1 => vM b ρ1 fun rb ρ2 => vM (look ra) ρ2 fun da ρ3 => vM (look rb) ρ3 fun db ρ4 => vO (g da db) fun r => Q r ρ4 := by
  unfold dOp2T; simp only [vM_bd, vM_opt]
theorem vO_gB {g : D → D → Option Bool} {x y : D} {Q : Rs → Prop} : vO (gB g x y) Q = vO (g x y) fun k => Q (.fz (.bool k)) := by
  show vO ((g x y).map _) Q = _
  cases g x y <;> rfl
theorem vM_op1 {g : D → Option Rs} {a : M Rs} {Q : Rs → List Sl → Prop} : vM (dOp1 g a) ρ Q = vM a ρ fun ra ρ1 => vM (look ra) ρ1 fun da ρ2 => vO (g da) fun r => Q r ρ2 := by
  unfold dOp1; simp only [vM_bd, vM_opt]
theorem vM_nil {Q : List Rs → List Sl → Prop} : vM dNil ρ Q = Q [] ρ := rfl
theorem vM_cons {f : M Rs} {g : M (List Rs)} {Q : List Rs → List Sl → Prop} : vM (dCons f g) ρ Q = vM f ρ fun r ρ1 => vM g ρ1 fun rs ρ2 => Q (r :: rs) ρ2 := by
  unfold dCons; simp only [vM_bd, vM_pr]
theorem vM_frzA0 {Q : List D → List Sl → Prop} : vM (frzA []) ρ Q = Q [] ρ := rfl
theorem vM_frzA {r : Rs} {rs : List Rs} {Q : List D → List Sl → Prop} : vM (frzA (r :: rs)) ρ Q = vM (frz r) ρ fun d ρ1 => vM (frzA rs) ρ1 fun ds ρ2 => Q (d :: ds) ρ2 := by
  conv => lhs; unfold frzA
  simp only [vM_bd, vM_pr]
theorem vM_lookA0 {Q : List D → List Sl → Prop} : vM (lookA []) ρ Q = Q [] ρ := rfl
theorem vM_lookA {r : Rs} {rs : List Rs} {Q : List D → List Sl → Prop} : vM (lookA (r :: rs)) ρ Q = vM (look r) ρ fun d ρ1 => vM (lookA rs) ρ1 fun ds ρ2 => Q (d :: ds) ρ2 := by
  conv => lhs; unfold lookA
  simp only [vM_bd, vM_pr]
theorem vM_ite {c : Prop} [Decidable c] {a b : M α} {Q : α → List Sl → Prop} : vM (if c then a else b) ρ Q = if c then vM a ρ Q else vM b ρ Q := by split <;> rfl
theorem vM_tup {f : M (List Rs)} {Q : Rs → List Sl → Prop} : vM (dTup f) ρ Q = vM f ρ fun rs ρ1 => vM (frzA rs) ρ1 fun ds ρ2 => ds.length ≤ 1000 ∧ Q (.fz (.tuple ds)) ρ2 := by
  unfold dTup; simp only [vM_bd]
  congr 1; funext rs ρ1; congr 1; funext ds ρ2
  by_cases h : ds.length ≤ 1000
  · rw [if_pos h]; simp only [vM_pr, h, true_and]
  · rw [if_neg h]; simp only [h, false_and]; rfl
theorem vM_lst {f : M (List Rs)} {Q : Rs → List Sl → Prop} : vM (dLst f) ρ Q = vM f ρ fun rs ρ1 => vM (frzA rs) ρ1 fun ds ρ2 => ds.length ≤ 1000 ∧ Q (.ow (.list ds)) ρ2 := by
  unfold dLst; simp only [vM_bd]
  congr 1; funext rs ρ1; congr 1; funext ds ρ2
  by_cases h : ds.length ≤ 1000
  · rw [if_pos h]; simp only [vM_pr, h, true_and]
  · rw [if_neg h]; simp only [h, false_and]; rfl
theorem vM_B {g : List D → Option Rs} {f : M (List Rs)} {Q : Rs → List Sl → Prop} : vM (dB g f) ρ Q = vM f ρ fun rs ρ1 => vM (lookA rs) ρ1 fun ds ρ2 => vO (g ds) fun r => Q r ρ2 := by
  unfold dB; simp only [vM_bd, vM_opt]
theorem vM_isi {T : Ty} {f : M Rs} {Q : Rs → List Sl → Prop} : vM (dIsi T f) ρ Q = vM f ρ fun r ρ1 => vM (look r) ρ1 fun d ρ2 => vO (isTO T d) fun r => Q r ρ2 := by
  unfold dIsi; simp only [vM_bd, vM_opt]
theorem vM_me {c : D → Bool} {g : D → List D → Option Rs} {fo : M Rs} {fa : M (List Rs)} {Q : Rs → List Sl → Prop} : vM (dMe c g fo fa) ρ Q = vM fo ρ fun ro ρ1 => vM (look ro) ρ1 fun d0 ρ2 => c d0 = true ∧ vM fa ρ2 fun rs ρ3 => vM (look ro) ρ3 fun d ρ4 => vM (lookA rs) ρ4 fun ds ρ5 => vO (g d ds) fun r => Q r ρ5 := by
  unfold dMe; simp only [vM_bd]
  congr 1; funext rs ρ1; congr 1; funext ds ρ2
  by_cases h : c ds = true
  · rw [if_pos h]; simp only [vM_bd, vM_opt, h, true_and]
  · rw [if_neg h]; exact propext ⟨fun z => z.elim, fun z => (h z.1).elim⟩
theorem vM_sl {fa : M Rs} {fl fh : M (Option Int)} {Q : Rs → List Sl → Prop} : vM (dSl fa fl fh) ρ Q = vM fa ρ fun ra ρ1 => vM fl ρ1 fun l ρ2 => vM fh ρ2 fun h ρ3 => vM (look ra) ρ3 fun d ρ4 => vO (gSl d l h) fun r => Q r ρ4 := by
  unfold dSl; simp only [vM_bd, vM_opt]
theorem vM_noP {Q : Option Int → List Sl → Prop} : vM dNoP ρ Q = Q none ρ := rfl
def intD : D → Option (Option Int)
  | .int i => some (some i)
  | _ => none
theorem vM_part {f : M Rs} {Q : Option Int → List Sl → Prop} : vM (dPart f) ρ Q = vM f ρ fun r ρ1 => vM (look r) ρ1 fun d ρ2 => vO (intD d) fun i => Q i ρ2 := by
  unfold dPart; simp only [vM_bd, vM_opt]
  rfl
theorem intD_int {i : Int} : intD (.int i) = some (some i) := rfl
theorem vM_key {f : M Rs} {Q : Key → List Sl → Prop} : vM (dKey f) ρ Q = vM f ρ fun r ρ1 => vM (look r) ρ1 fun d ρ2 => vO (keyOf d) fun k => Q k ρ2 := by
  unfold dKey; simp only [vM_bd, vM_opt]
def callK (sem : M Rs) (rs : List Rs) (ρ : List Sl) (Q : Rs → List Sl → Prop) (_ : Tag Q := .mk) : Prop := vR (sem (rs.map (slotOf ρ))) fun r ρp => match r with
  | .fz d => Q (.fz d) (wb rs ρp ρ)
  | .ow d => Q (.ow d) (wb rs ρp ρ)
  | .nm _ => False
theorem vM_call {ls : List Bool} {sem : M Rs} {f : M (List Rs)} {Q : Rs → List Sl → Prop} : vM (dCall ls sem f) ρ Q = vM f ρ fun rs ρ1 => vM (argSA ls rs) ρ1 fun rs' ρ2 => (nmOk rs' && rs'.all (heldR ρ2)) = true ∧ callK sem rs' ρ2 Q := by
  unfold dCall; simp only [vM_bd]
  congr 1; funext rs ρ1; congr 1; funext rs' ρ2
  unfold callK vM
  dsimp only
  by_cases h : (nmOk rs' && rs'.all (heldR ρ2)) = true
  · rw [if_pos h]; simp only [h, true_and]
    cases sem (rs'.map (slotOf ρ2)) with
    | bad => rfl
    | ok r ρp => cases r <;> rfl
  · rw [if_neg h]; exact propext ⟨fun z => z.elim, fun z => (h z.1).elim⟩
theorem vM_argSA0 {Q : List Rs → List Sl → Prop} : vM (argSA [] []) ρ Q = Q [] ρ := rfl
theorem vM_argSA {l : Bool} {ls : List Bool} {r : Rs} {rs : List Rs} {Q : List Rs → List Sl → Prop} : vM (argSA (l :: ls) (r :: rs)) ρ Q = vM (argS l r) ρ fun r' ρ1 => vM (argSA ls rs) ρ1 fun rs' ρ2 => Q (r' :: rs') ρ2 := by
  conv => lhs; unfold argSA
  simp only [vM_bd, vM_pr]
theorem vM_argS_fz {l : Bool} {d : D} {Q : Rs → List Sl → Prop} : vM (argS l (.fz d)) ρ Q = Q (.fz d) ρ := rfl
theorem vM_argS_ow {l : Bool} {d : D} {Q : Rs → List Sl → Prop} : vM (argS l (.ow d)) ρ Q = Q (.ow d) ρ := rfl
def argK (o : Option Sl) (l : Bool) (i : Nat) (ρ : List Sl) (Q : Rs → List Sl → Prop) (_ : Tag Q := .mk) : Prop := match o with
  | some (.fz d) => Q (.fz d) ρ
  | some (.ow d) => if l then Q (.nm i) ρ else Q (.fz d) (ρ.set i (.fz d))
  | some (.lk d) => if l then Q (.nm i) ρ else Q (.fz d) (ρ.set i (.fz d))
  | _ => False
theorem vM_argS_nm {l : Bool} {i : Nat} {Q : Rs → List Sl → Prop} : vM (argS l (.nm i)) ρ Q = argK ρ[i]? l i ρ Q := by
  unfold vM argS argK
  simp only
  cases ρ[i]? with
  | none => rfl
  | some s => cases s <;> cases l <;> rfl
theorem argK_fz {l : Bool} {i : Nat} {d : D} {Q : Rs → List Sl → Prop} : argK (some (.fz d)) l i ρ Q = Q (.fz d) ρ := rfl
theorem argK_owt {i : Nat} {d : D} {Q : Rs → List Sl → Prop} : argK (some (.ow d)) true i ρ Q = Q (.nm i) ρ := rfl
theorem argK_owf {i : Nat} {d : D} {Q : Rs → List Sl → Prop} : argK (some (.ow d)) false i ρ Q = Q (.fz d) (ρ.set i (.fz d)) := rfl
theorem argK_lkt {i : Nat} {d : D} {Q : Rs → List Sl → Prop} : argK (some (.lk d)) true i ρ Q = Q (.nm i) ρ := rfl
theorem argK_lkf {i : Nat} {d : D} {Q : Rs → List Sl → Prop} : argK (some (.lk d)) false i ρ Q = Q (.fz d) (ρ.set i (.fz d)) := rfl
def v_mutK (o : Option Sl) (i : Nat) (c : D → Bool) (fr : Bool) (g : D → List D → Option (D × D)) (f : M (List Rs)) (ρ : List Sl) (Q : Rs → List Sl → Prop) : Prop := match o with
  | some (.ow d0) => c d0 = true ∧ vM f ρ fun rs ρ1 => vM (if fr = true then frzA rs else lookA rs) ρ1 fun ds ρ2 => match ρ2[i]? with
    | some (.ow d) => vO (g d ds) fun p => Q (.fz p.2) (ρ2.set i (.ow p.1))
    | _ => False
  | _ => False
theorem vM_mut {i : Nat} {c : D → Bool} {fr : Bool} {g : D → List D → Option (D × D)} {f : M (List Rs)} {Q : Rs → List Sl → Prop} : vM (dMut i c fr g f) ρ Q = v_mutK ρ[i]? i c fr g f ρ Q := by
  unfold v_mutK
  cases h : ρ[i]? with
  | none => unfold vM dMut; rw [h]; rfl
  | some s =>
    cases s with
    | ow d0 =>
      simp only
      by_cases hc : c d0 = true
      · have : dMut i c fr g f ρ = bd f (fun rs => bd (if fr = true then frzA rs else lookA rs) fun ds => fun ρ1 => match ρ1[i]? with
          | some (.ow d) => match g d ds with
            | some (d', res) => .ok (.fz res) (ρ1.set i (.ow d'))
            | none => .bad
          | _ => .bad) ρ := by unfold dMut; rw [h]; simp only [hc, if_true] <;> rfl
        unfold vM
        rw [this]
        show vM (bd f _) ρ Q = _
        simp only [hc, true_and, vM_bd]
        congr 1; funext rs ρ1; congr 1; funext ds ρ2
        unfold vM
        dsimp only
        cases h2 : ρ2[i]? with
        | none => rfl
        | some s2 =>
          cases s2 with
          | ow d =>
            simp only
            cases g d ds with
            | none => rfl
            | some p => rfl
          | em => rfl
          | fz _ => rfl
          | lk _ => rfl
      · unfold vM dMut; rw [h]; simp only [if_neg hc]; exact propext ⟨fun z => z.elim, fun z => (hc z.1).elim⟩
    | em => unfold vM dMut; rw [h]; rfl
    | fz _ => unfold vM dMut; rw [h]; rfl
    | lk _ => unfold vM dMut; rw [h]; rfl
-- tests
theorem vM_yes {Q : Bool → List Sl → Prop} : vM dYes ρ Q = Q true ρ := rfl
-- statements
theorem vS_seq {f g : DS} : vS (dSeq f g) ρ N T B C = vS f ρ (fun ρ1 => vS g ρ1 N T B C) T B C := by
  unfold vS dSeq; cases f ρ <;> rfl
theorem vS_pass : vS dPass ρ N T B C = N ρ := rfl
theorem vS_brk : vS dBrk ρ N T B C = B ρ := rfl
theorem vS_cnt : vS dCnt ρ N T B C = C ρ := rfl
theorem vS_ret {f : M Rs} : vS (dRet f) ρ N T B C = vM f ρ T := by unfold vS dRet vM vR; cases f ρ <;> rfl
theorem vS_drop {f : M Rs} : vS (dDrop f) ρ N T B C = vM f ρ fun _ ρ1 => N ρ1 := by unfold vS dDrop vM vR; cases f ρ <;> rfl
theorem vS_if {c : M Bool} {f g : DS} : vS (dIf c f g) ρ N T B C = vM c ρ fun b ρ1 => if b = true then vS f ρ1 N T B C else vS g ρ1 N T B C := by
  unfold vS dIf vM vR
  cases c ρ with
  | bad => rfl
  | ok b ρ' => cases b <;> rfl
theorem vS_set {i : Nat} {f : M Rs} : vS (dSet i f) ρ N T B C = vM f ρ fun r ρ1 => vO (setR i r ρ1) N := by
  unfold vS dSet vM vR
  cases f ρ with
  | bad => rfl
  | ok r ρ1 => simp only; cases setR i r ρ1 <;> rfl
theorem vS_asg {g : DG} {f : M Rs} : vS (dAsg g f) ρ N T B C = vM f ρ fun r ρ1 => vM (frz r) ρ1 fun d ρ2 => vO (g d ρ2) N := by
  rw [← vM_bd]
  unfold vS dAsg vM vR
  cases bd f frz ρ with
  | bad => rfl
  | ok r ρ1 => simp only; cases g r ρ1 <;> rfl
theorem vS_par {is : List Nat} {f : M (List Rs)} : vS (dPar is f) ρ N T B C = vM f ρ fun rs ρ1 => vM (argSA (is.map fun _ => false) rs) ρ1 fun rs' ρ2 => vO (setQs is rs' ρ2) N := by
  rw [← vM_bd]
  unfold vS dPar vM vR
  cases bd f (argSA (is.map fun _ => false)) ρ with
  | bad => rfl
  | ok r ρ1 => simp only; cases setQs is r ρ1 <;> rfl
def v_putK' (o : Option Sl) (i : Nat) (k : Key) (dv : D) (ρ : List Sl) (N : List Sl → Prop) : Prop := match o with
  | some (.ow d) => vO (gPut d (kD k) dv) fun d' => N (ρ.set i (.ow d'))
  | _ => False
def isOw : Option Sl → Bool
  | some (.ow _) => true
  | _ => false
theorem vS_put {i : Nat} {fi fe : M Rs} : vS (dPut i fi fe) ρ N T B C = vM fe ρ fun r ρ1 => vM (frz r) ρ1 fun dv ρ2 => isOw ρ2[i]? = true ∧ vM (dKey fi) ρ2 fun k ρ3 => v_putK' ρ3[i]? i k dv ρ3 N := by
  rw [← vM_bd]
  unfold vS dPut
  conv => rhs; unfold vM vR
  cases bd fe frz ρ with
  | bad => rfl
  | ok dv ρ1 =>
    simp only
    cases ρ1[i]? with
    | none => simp [isOw]
    | some s =>
      cases s with
      | ow d0 =>
        simp only [isOw, true_and]
        cases dKey fi ρ1 with
        | bad => rfl
        | ok k ρ3 =>
          simp only
          unfold v_putK'
          cases ρ3[i]? with
          | none => rfl
          | some s3 =>
            cases s3 with
            | ow d => simp only; cases gPut d (kD k) dv <;> rfl
            | em => rfl
            | fz _ => rfl
            | lk _ => rfl
      | em => simp [isOw]
      | fz _ => simp [isOw]
      | lk _ => simp [isOw]
def fzO : Option Rs → Option D
  | some (.fz d) => some d
  | _ => none
def v_getK (o : Option Sl) (k : Key) (Q : D → Prop) : Prop := match o with
  | some (.ow d) => vO (gGet d (kD k)) Q
  | _ => False
theorem vS_augS {g : G2} {i : Nat} {fi fe : M Rs} : vS (dAugS g i fi fe) ρ N T B C = (isOw ρ[i]? = true ∧ vM (dKey fi) ρ fun k ρ1 => v_getK ρ1[i]? k fun old => vM fe ρ1 fun r ρ2 => vM (look r) ρ2 fun dv ρ3 => vO (fzO (g old dv)) fun dn => v_putK' ρ3[i]? i k dn ρ3 N) := by
  unfold vS dAugS
  cases ρ[i]? with
  | none => simp [isOw]
  | some s =>
    cases s with
    | em => simp [isOw]
    | fz _ => simp [isOw]
    | lk _ => simp [isOw]
    | ow d0 =>
      simp only [isOw, true_and]
      conv => rhs; unfold vM vR
      cases dKey fi ρ with
      | bad => rfl
      | ok k ρ1 =>
        simp only
        unfold v_getK
        cases ρ1[i]? with
        | none => rfl
        | some s1 =>
          cases s1 with
          | em => rfl
          | fz _ => rfl
          | lk _ => rfl
          | ow d1 =>
            simp only
            cases gGet d1 (kD k) with
            | none => rfl
            | some old =>
              simp only [vO]
              unfold bd
              cases fe ρ1 with
              | bad => rfl
              | ok r0 ρ1' =>
              simp only
              cases look r0 ρ1' with
              | bad => rfl
              | ok dv ρ2 =>
                simp only
                cases g old dv with
                | none => rfl
                | some r =>
                  cases r with
                  | ow _ => rfl
                  | nm _ => rfl
                  | fz dn =>
                    simp only [fzO]
                    unfold v_putK'
                    cases ρ2[i]? with
                    | none => rfl
                    | some s3 =>
                      cases s3 with
                      | ow d => simp only; cases gPut d (kD k) dn <;> rfl
                      | em => rfl
                      | fz _ => rfl
                      | lk _ => rfl
theorem fzO_fz {d : D} : fzO (some (.fz d)) = some d := rfl
def augK (o : Option Sl) (Q : D → Prop) (_ : Tag Q := .mk) : Prop := match o with
  | some (.fz d) => Q d
  | _ => False
theorem augK_fz {d : D} {Q : D → Prop} : augK (some (.fz d)) Q = Q d := rfl
theorem vS_aug {g : G2} {i : Nat} {fe : M Rs} : vS (dAug g i fe) ρ N T B C = augK ρ[i]? fun d => vM fe ρ fun r ρ1 => vM (look r) ρ1 fun dv ρ2 => vO (fzO (g d dv)) fun dn => vO (setR i (.fz dn) ρ2) N := by
  unfold vS dAug augK
  cases ρ[i]? with
  | none => rfl
  | some s =>
    cases s with
    | em => rfl
    | ow _ => rfl
    | lk _ => rfl
    | fz d =>
      simp only
      rw [← vM_bd]
      unfold vM vR
      cases bd fe look ρ with
      | bad => rfl
      | ok dv ρ1 =>
        simp only
        cases g d dv with
        | none => rfl
        | some r =>
          cases r with
          | ow _ => rfl
          | nm _ => rfl
          | fz dn =>
            simp only [fzO, vO, setR]
            by_cases h : i < ρ1.length
            · simp only [h, if_true]
            · simp only [h, if_false]
/-- a def's promise -/
theorem vM_run {ms : List Bool} {n : Nat} {body : DS} {Q : Rs → List Sl → Prop} : vM (runDef ms n body) ρ Q = vS body (ρ ++ List.replicate (n - ρ.length) .em) (fun ρ' => Q (.fz .none) (outP ms ρ')) (fun r ρ' => match r with
    | .fz d => Q (.fz d) (outP ms ρ')
    | .ow d => Q (.ow d) (outP ms ρ')
    | .nm i => match ρ'[i]? with
      | some (.fz d) => Q (.fz d) (outP ms ρ')
      | some (.ow d) => if ms.length ≤ i then Q (.ow d) (outP ms ρ') else Q (.fz d) (outP ms (ρ'.set i (.fz d)))
      | some (.lk d) => Q (.fz d) (outP ms (ρ'.set i (.fz d)))
      | _ => False) nope nope := by
  unfold vM runDef vS
  cases body (ρ ++ List.replicate (n - ρ.length) .em) with
  | nx ρ' => rfl
  | bk ρ' => rfl
  | ct ρ' => rfl
  | bad => rfl
  | rt r ρ' =>
    cases r with
    | fz d => rfl
    | ow d => rfl
    | nm i =>
      simp only
      cases ρ'[i]? with
      | none => rfl
      | some s =>
        cases s with
        | ow d => simp only; by_cases h : ms.length ≤ i <;> simp only [h, if_true, if_false] <;> rfl
        | _ => rfl
/-! ### loops -/
theorem vS_forGo {g : DG} {body : DS} (I : Nat → List Sl → Prop) {T : Rs → List Sl → Prop} {Bk : List Sl → Prop} : ∀ (ds : List D) (j : Nat) (ρ : List Sl), I j ρ →
    (∀ k d ρ, ds[k]? = some d → I (j + k) ρ → vO (g d ρ) fun ρ1 => vS body ρ1 (I (j + k + 1)) T Bk (I (j + k + 1))) → vS (forGo g body ds) ρ (fun ρ => I (j + ds.length) ρ ∨ Bk ρ) T nope nope
  | [], j, ρ, h, _ => by unfold vS forGo; exact .inl h
  | d :: ds, j, ρ, h, st => by
    have h0 := st 0 d ρ rfl h
    unfold vS forGo
    cases e : g d ρ with
    | none => rw [e] at h0; exact h0.elim
    | some ρ1 =>
      rw [e] at h0
      have h0 : vS body ρ1 (I (j + 0 + 1)) T Bk (I (j + 0 + 1)) := h0
      unfold vS at h0
      have next : ∀ ρ2, I (j + 1) ρ2 → vS (forGo g body ds) ρ2 (fun ρ => I (j + (d :: ds).length) ρ ∨ Bk ρ) T nope nope := fun ρ2 h2 => by
        have q := vS_forGo (T := T) (Bk := Bk) I ds (j + 1) ρ2 h2 fun k d' ρ3 hk hi => by
          have := st (k + 1) d' ρ3 (by simpa using hk) (by rw [show j + (k + 1) = j + 1 + k by omega]; exact hi)
          rw [show j + (k + 1) = j + 1 + k by omega] at this; exact this
        rw [show j + (d :: ds).length = j + 1 + ds.length by rw [List.length_cons]; omega]; exact q
      simp only
      cases eb : body ρ1 with
      | nx ρ2 => rw [eb] at h0; exact next ρ2 h0
      | ct ρ2 => rw [eb] at h0; exact next ρ2 h0
      | bk ρ2 => rw [eb] at h0; exact .inr h0
      | rt r ρ2 => rw [eb] at h0; exact h0
      | bad => rw [eb] at h0; exact h0.elim
theorem vS_for {w : M Wk} {g : DG} {body : DS} (h : vM w ρ fun p ρ1 => ∃ I : Nat → List Sl → Prop, I 0 ρ1 ∧ (∀ k d ρ, p.1[k]? = some d → I k ρ → vO (g d ρ) fun ρ2 => vS body ρ2 (I (k + 1)) (fun r ρ => T r (unl p.2 ρ)) (fun ρ => N (unl p.2 ρ)) (I (k + 1))) ∧ ∀ ρ, I p.1.length ρ → N (unl p.2 ρ)) :
    vS (dFor w g body) ρ N T B C := by
  obtain ⟨⟨ds, l⟩, ρ1, e, I, h0, st, fin⟩ := vM_iff.mp h
  unfold vS dFor
  rw [e]
  have q := vS_forGo (g := g) (body := body) (T := fun r ρ => T r (unl l ρ)) (Bk := fun ρ => N (unl l ρ)) I ds 0 ρ1 h0 fun k d ρ hk hi => by
    rw [Nat.zero_add] at hi ⊢; exact st k d ρ hk hi
  simp only
  unfold vS at q
  cases ef : forGo g body ds ρ1 with
  | nx ρ2 =>
    rw [ef] at q
    rcases q with q | q
    · exact fin ρ2 (by rw [Nat.zero_add] at q; exact q)
    · exact q
  | rt r ρ2 => rw [ef] at q; exact q
  | bk ρ2 => rw [ef] at q; exact q.elim
  | ct ρ2 => rw [ef] at q; exact q.elim
  | bad => rw [ef] at q; exact q.elim
/-! ### comprehensions -/
theorem vM_lcGo {own : List Nat} {g : DG} {tt : M Bool} {te : M Rs} (I : Nat → List D → List Sl → Prop) : ∀ (ds : List D) (j : Nat) (acc : List D) (ρ : List Sl), I j acc ρ →
    (∀ k d acc ρ, ds[k]? = some d → I (j + k) acc ρ → vO (g d ρ) fun ρ1 => vM tt ρ1 fun b ρ2 => if b = true then vM te ρ2 fun r ρ3 => vM (frz r) ρ3 fun x ρ4 => I (j + k + 1) (acc ++ [x]) (wipeR own ρ4) else I (j + k + 1) acc (wipeR own ρ2)) →
    vM (lcGo own g tt te ds acc) ρ fun acc ρ => I (j + ds.length) acc ρ
  | [], j, acc, ρ, h, _ => h
  | d :: ds, j, acc, ρ, h, st => by
    have h0 := st 0 d acc ρ rfl h
    have next : ∀ acc2 ρ2, I (j + 1) acc2 ρ2 → vM (lcGo own g tt te ds acc2) ρ2 fun acc ρ => I (j + (d :: ds).length) acc ρ := fun acc2 ρ2 h2 => by
      have q := vM_lcGo I ds (j + 1) acc2 ρ2 h2 fun k d' acc3 ρ3 hk hi => by
        have := st (k + 1) d' acc3 ρ3 (by simpa using hk) (by rw [show j + (k + 1) = j + 1 + k by omega]; exact hi)
        rw [show j + (k + 1) = j + 1 + k by omega] at this; exact this
      rw [show j + (d :: ds).length = j + 1 + ds.length by rw [List.length_cons]; omega]; exact q
    unfold vM lcGo
    cases e : g d ρ with
    | none => rw [e] at h0; exact h0.elim
    | some ρ1 =>
      rw [e] at h0
      have h0 : vM tt ρ1 _ := h0
      obtain ⟨b, ρ2, e2, q⟩ := vM_iff.mp h0
      simp only [e2]
      cases b with
      | false => exact next _ _ q
      | true =>
        rw [if_pos rfl, ← vM_bd] at q
        obtain ⟨x, ρ3, e3, q⟩ := vM_iff.mp q
        simp only [e3]
        exact next _ _ q
/-- the rule of a comprehension -/
theorem vM_lc {own : List Nat} {w : M Wk} {g : DG} {tt : M Bool} {te : M Rs} {Q : Rs → List Sl → Prop} (h : vM w ρ fun p ρ1 => p.1.length ≤ sizeLine ∧ ∃ I : Nat → List D → List Sl → Prop, I 0 [] (wipeR own ρ1) ∧
    (∀ k d acc ρ, p.1[k]? = some d → I k acc ρ → vO (g d ρ) fun ρ1 => vM tt ρ1 fun b ρ2 => if b = true then vM te ρ2 fun r ρ3 => vM (frz r) ρ3 fun x ρ4 => I (k + 1) (acc ++ [x]) (wipeR own ρ4) else I (k + 1) acc (wipeR own ρ2)) ∧
    ∀ acc ρ2, I p.1.length acc ρ2 → Q (.ow (.list acc)) (unl p.2 (restore own ρ1 ρ2))) : vM (dLc own w g tt te) ρ Q := by
  obtain ⟨⟨ds, l⟩, ρ1, e, hl, I, h0, st, fin⟩ := vM_iff.mp h
  unfold vM dLc
  rw [e]
  simp only [show ds.length ≤ sizeLine from hl, if_true]
  obtain ⟨acc, ρ2, e2, q⟩ := vM_iff.mp (vM_lcGo (own := own) (g := g) (tt := tt) (te := te) I ds 0 [] _ h0 fun k d acc ρ hk hi => by rw [Nat.zero_add] at hi ⊢; exact st k d acc ρ hk hi)
  rw [Nat.zero_add] at q
  rw [e2]
  exact fin acc ρ2 q
/-- a comprehension that changes nothing, over coded items -/
theorem vM_lcMap {α : Type} {own : List Nat} {w : M Wk} {g : DG} {tt : M Bool} {te : M Rs} {Q : Rs → List Sl → Prop} (enc : α → D) (xs : List α) (p : α → Bool) (f : α → D) (h : vM w ρ fun q ρ1 => q.1 = xs.map enc ∧ xs.length ≤ sizeLine ∧
    (∀ x ∈ xs, vO (g (enc x) (wipeR own ρ1)) fun ρ2 => vM tt ρ2 fun b ρ3 => b = p x ∧ if b = true then vM te ρ3 fun r ρ4 => vM (frz r) ρ4 fun y ρ5 => y = f x ∧ wipeR own ρ5 = wipeR own ρ1 else wipeR own ρ3 = wipeR own ρ1) ∧
    Q (.ow (.list ((xs.filter p).map f))) (unl q.2 (restore own ρ1 (wipeR own ρ1)))) : vM (dLc own w g tt te) ρ Q := by
  refine vM_lc (vM_mono h fun q ρ1 ⟨h1, h2, h3, h4⟩ => ⟨by rw [h1, List.length_map]; exact h2, fun k acc ρ2 => acc = ((xs.take k).filter p).map f ∧ ρ2 = wipeR own ρ1, ⟨by simp, rfl⟩, fun k d acc ρ2 hd hI => ?_, fun acc ρ2 hI => ?_⟩)
  · obtain ⟨rfl, rfl⟩ := hI
    rw [h1, List.getElem?_map] at hd
    cases ex : xs[k]? with
    | none => rw [ex] at hd; cases hd
    | some x =>
      rw [ex] at hd; cases hd
      have hk := (List.getElem?_eq_some_iff.mp ex).1
      have hx := (List.getElem?_eq_some_iff.mp ex).2
      have mem : x ∈ xs := hx ▸ List.getElem_mem hk
      have q0 := h3 x mem
      have tk : xs.take (k + 1) = xs.take k ++ [x] := by rw [List.take_add_one, ex]; rfl
      cases eg : g (enc x) (wipeR own ρ1) with
      | none => rw [eg] at q0; exact q0
      | some ρ2 =>
        rw [eg] at q0
        refine vM_mono (show vM tt ρ2 _ from q0) fun b ρ3 ⟨hb, q1⟩ => ?_
        subst hb
        by_cases hp : p x = true
        · rw [if_pos hp] at q1 ⊢
          refine vM_mono q1 fun r ρ4 q2 => vM_mono q2 fun y ρ5 ⟨e1, e2⟩ => ⟨?_, e2⟩
          rw [tk, List.filter_append, List.map_append, List.filter_cons, if_pos hp, e1]; rfl
        · rw [if_neg hp] at q1 ⊢
          refine ⟨?_, q1⟩
          rw [tk, List.filter_append, List.map_append, List.filter_cons, if_neg hp]; simp
  · obtain ⟨rfl, rfl⟩ := hI
    rw [h1, List.length_map, List.take_length]
    exact h4
theorem vM_wk {f : M Rs} {Q : Wk → List Sl → Prop} : vM (dWk f) ρ Q = vM f ρ fun r ρ1 => vM (dWk (pr r)) ρ1 Q := by
  unfold dWk; simp only [vM_bd, vM_pr]
end
end DL
/-! the rules over closed predicates (nothing unfolds them) -/
namespace DL
open PySem L2
structure wM {α : Type} (m : M α) (ρ : List Sl) (Q : α → List Sl → Prop) (_ : Tag Q := .mk) : Prop where
  run : vM m ρ Q
structure wO {α : Type} (o : Option α) (Q : α → Prop) (_ : Tag Q := .mk) : Prop where
  run : vO o Q
structure wS (s : DS) (ρ : List Sl) (N : List Sl → Prop) (T : Rs → List Sl → Prop) (B C : List Sl → Prop) (_ : Tag (N, T, B, C) := .mk) : Prop where
  run : vS s ρ N T B C
theorem wM_def {α : Type} (m : M α) (ρ : List Sl) (Q : α → List Sl → Prop) : wM m ρ Q = vM m ρ Q := propext ⟨fun h => h.run, fun h => ⟨h⟩⟩
theorem wO_def {α : Type} (o : Option α) (Q : α → Prop) : wO o Q = vO o Q := propext ⟨fun h => h.run, fun h => ⟨h⟩⟩
theorem wS_def (s : DS) (ρ : List Sl) (N : List Sl → Prop) (T : Rs → List Sl → Prop) (B C : List Sl → Prop) : wS s ρ N T B C = vS s ρ N T B C := propext ⟨fun h => h.run, fun h => ⟨h⟩⟩
section
variable {α β : Type} {ρ : List Sl} {N : List Sl → Prop} {T : Rs → List Sl → Prop} {B C : List Sl → Prop}
def mutK (o : Option Sl) (i : Nat) (c : D → Bool) (fr : Bool) (g : D → List D → Option (D × D)) (f : M (List Rs)) (ρ : List Sl) (Q : Rs → List Sl → Prop) (_ : Tag Q := .mk) : Prop := match o with
  | some (.ow d0) => c d0 = true ∧ wM f ρ fun rs ρ1 => wM (if fr = true then frzA rs else lookA rs) ρ1 fun ds ρ2 => match ρ2[i]? with
    | some (.ow d) => wO (g d ds) fun p => Q (.fz p.2) (ρ2.set i (.ow p.1))
    | _ => False
  | _ => False
theorem mutK_def (o : Option Sl) (i : Nat) (c : D → Bool) (fr : Bool) (g : D → List D → Option (D × D)) (f : M (List Rs)) (ρ : List Sl) (Q : Rs → List Sl → Prop) : mutK o i c fr g f ρ Q = v_mutK o i c fr g f ρ Q := by
  unfold mutK v_mutK
  simp only [wM_def, wO_def] <;> rfl
def putK' (o : Option Sl) (i : Nat) (k : Key) (dv : D) (ρ : List Sl) (N : List Sl → Prop) (_ : Tag N := .mk) : Prop := match o with
  | some (.ow d) => wO (gPut d (kD k) dv) fun d' => N (ρ.set i (.ow d'))
  | _ => False
theorem putK'_def (o : Option Sl) (i : Nat) (k : Key) (dv : D) (ρ : List Sl) (N : List Sl → Prop) : putK' o i k dv ρ N = v_putK' o i k dv ρ N := by
  unfold putK' v_putK'
  simp only [wO_def] <;> rfl
def getK (o : Option Sl) (k : Key) (Q : D → Prop) (_ : Tag Q := .mk) : Prop := match o with
  | some (.ow d) => wO (gGet d (kD k)) Q
  | _ => False
theorem getK_def (o : Option Sl) (k : Key) (Q : D → Prop) : getK o k Q = v_getK o k Q := by
  unfold getK v_getK
  simp only [wO_def] <;> rfl
theorem wM_iff {α : Type} {m : M α} {ρ : List Sl} {Q : α → List Sl → Prop} : wM m ρ Q ↔ ∃ a ρ', m ρ = .ok a ρ' ∧ Q a ρ' := by
  rw [wM_def]; exact vM_iff
theorem wM_eq {α : Type} {m : M α} {ρ ρ' : List Sl} {a : α} (h : wM m ρ fun b ρ1 => b = a ∧ ρ1 = ρ') : m ρ = .ok a ρ' := by
  rw [wM_def] at h; exact vM_eq h
theorem wM_mono {α : Type} {m : M α} {ρ : List Sl} {Q Q' : α → List Sl → Prop} (h : wM m ρ Q) (i : ∀ a ρ', Q a ρ' → Q' a ρ') : wM m ρ Q' := by
  rw [wM_def] at h ⊢; exact vM_mono h i
theorem wS_mono {s : DS} {ρ : List Sl} {N N' : List Sl → Prop} {T T' : Rs → List Sl → Prop} {B B' C C' : List Sl → Prop} (h : wS s ρ N T B C) (n : ∀ ρ, N ρ → N' ρ) (t : ∀ r ρ, T r ρ → T' r ρ) (b : ∀ ρ, B ρ → B' ρ) (c : ∀ ρ, C ρ → C' ρ) : wS s ρ N' T' B' C' := by
  rw [wS_def] at h ⊢; exact vS_mono h n t b c
theorem wM_bd {m : M α} {k : α → M β} {Q : β → List Sl → Prop} : wM (bd m k) ρ Q = wM m ρ fun a ρ1 => wM (k a) ρ1 Q := by
  simp only [wM_def, wO_def, wS_def, mutK_def, putK'_def, getK_def]; exact vM_bd
theorem wM_pr {a : α} {Q : α → List Sl → Prop} : wM (pr a) ρ Q = Q a ρ := by
  simp only [wM_def, wO_def, wS_def, mutK_def, putK'_def, getK_def]; exact vM_pr
theorem wM_opt {o : Option α} {Q : α → List Sl → Prop} : wM (opt o) ρ Q = wO o fun a => Q a ρ := by
  simp only [wM_def, wO_def, wS_def, mutK_def, putK'_def, getK_def]; exact vM_opt
theorem wO_some {a : α} {Q : α → Prop} : wO (some a) Q = Q a := by
  simp only [wM_def, wO_def, wS_def, mutK_def, putK'_def, getK_def]; exact vO_some
theorem wM_C {d : D} {Q : Rs → List Sl → Prop} : wM (dC d) ρ Q = Q (.fz d) ρ := by
  simp only [wM_def, wO_def, wS_def, mutK_def, putK'_def, getK_def]; exact vM_C
theorem wM_var {i : Nat} {Q : Rs → List Sl → Prop} : wM (dVar i) ρ Q = varK ρ[i]? i ρ Q := by
  simp only [wM_def, wO_def, wS_def, mutK_def, putK'_def, getK_def]; exact vM_var
theorem wM_look_fz {d : D} {Q : D → List Sl → Prop} : wM (look (.fz d)) ρ Q = Q d ρ := by
  simp only [wM_def, wO_def, wS_def, mutK_def, putK'_def, getK_def]; exact vM_look_fz
theorem wM_look_ow {d : D} {Q : D → List Sl → Prop} : wM (look (.ow d)) ρ Q = Q d ρ := by
  simp only [wM_def, wO_def, wS_def, mutK_def, putK'_def, getK_def]; exact vM_look_ow
theorem wM_look_nm {i : Nat} {Q : D → List Sl → Prop} : wM (look (.nm i)) ρ Q = lookK ρ[i]? ρ Q := by
  simp only [wM_def, wO_def, wS_def, mutK_def, putK'_def, getK_def]; exact vM_look_nm
theorem wM_frz_fz {d : D} {Q : D → List Sl → Prop} : wM (frz (.fz d)) ρ Q = Q d ρ := by
  simp only [wM_def, wO_def, wS_def, mutK_def, putK'_def, getK_def]; exact vM_frz_fz
theorem wM_frz_ow {d : D} {Q : D → List Sl → Prop} : wM (frz (.ow d)) ρ Q = Q d ρ := by
  simp only [wM_def, wO_def, wS_def, mutK_def, putK'_def, getK_def]; exact vM_frz_ow
theorem wM_frz_nm {i : Nat} {Q : D → List Sl → Prop} : wM (frz (.nm i)) ρ Q = frzK ρ[i]? i ρ Q := by
  simp only [wM_def, wO_def, wS_def, mutK_def, putK'_def, getK_def]; exact vM_frz_nm
theorem wM_op2 {g : G2} {a b : M Rs} {Q : Rs → List Sl → Prop} : wM (dOp2 g a b) ρ Q = wM a ρ fun ra ρ1 => wM b ρ1 fun rb ρ2 => wM (look ra) ρ2 fun da ρ3 => wM (look rb) ρ3 fun db ρ4 => wO (g da db) fun r => Q r ρ4 := by
  simp only [wM_def, wO_def, wS_def, mutK_def, putK'_def, getK_def]; exact vM_op2
theorem wM_op2T {g : D → D → Option Bool} {a b : M Rs} {Q : Bool → List Sl → Prop} : wM (dOp2T g a b) ρ Q = wM a ρ fun ra ρ1 => wM b ρ1 fun rb ρ2 => wM (look ra) ρ2 fun da ρ3 => wM (look rb) ρ3 fun db ρ4 => wO (g da db) fun r => Q r ρ4 := by
  simp only [wM_def, wO_def, wS_def, mutK_def, putK'_def, getK_def]; exact vM_op2T
theorem wO_gB {g : D → D → Option Bool} {x y : D} {Q : Rs → Prop} : wO (gB g x y) Q = wO (g x y) fun k => Q (.fz (.bool k)) := by
  simp only [wM_def, wO_def, wS_def, mutK_def, putK'_def, getK_def]; exact vO_gB
theorem wM_op1 {g : D → Option Rs} {a : M Rs} {Q : Rs → List Sl → Prop} : wM (dOp1 g a) ρ Q = wM a ρ fun ra ρ1 => wM (look ra) ρ1 fun da ρ2 => wO (g da) fun r => Q r ρ2 := by
  simp only [wM_def, wO_def, wS_def, mutK_def, putK'_def, getK_def]; exact vM_op1
theorem wM_nil {Q : List Rs → List Sl → Prop} : wM dNil ρ Q = Q [] ρ := by
  simp only [wM_def, wO_def, wS_def, mutK_def, putK'_def, getK_def]; exact vM_nil
theorem wM_cons {f : M Rs} {g : M (List Rs)} {Q : List Rs → List Sl → Prop} : wM (dCons f g) ρ Q = wM f ρ fun r ρ1 => wM g ρ1 fun rs ρ2 => Q (r :: rs) ρ2 := by
  simp only [wM_def, wO_def, wS_def, mutK_def, putK'_def, getK_def]; exact vM_cons
theorem wM_frzA0 {Q : List D → List Sl → Prop} : wM (frzA []) ρ Q = Q [] ρ := by
  simp only [wM_def, wO_def, wS_def, mutK_def, putK'_def, getK_def]; exact vM_frzA0
theorem wM_frzA {r : Rs} {rs : List Rs} {Q : List D → List Sl → Prop} : wM (frzA (r :: rs)) ρ Q = wM (frz r) ρ fun d ρ1 => wM (frzA rs) ρ1 fun ds ρ2 => Q (d :: ds) ρ2 := by
  simp only [wM_def, wO_def, wS_def, mutK_def, putK'_def, getK_def]; exact vM_frzA
theorem wM_lookA0 {Q : List D → List Sl → Prop} : wM (lookA []) ρ Q = Q [] ρ := by
  simp only [wM_def, wO_def, wS_def, mutK_def, putK'_def, getK_def]; exact vM_lookA0
theorem wM_lookA {r : Rs} {rs : List Rs} {Q : List D → List Sl → Prop} : wM (lookA (r :: rs)) ρ Q = wM (look r) ρ fun d ρ1 => wM (lookA rs) ρ1 fun ds ρ2 => Q (d :: ds) ρ2 := by
  simp only [wM_def, wO_def, wS_def, mutK_def, putK'_def, getK_def]; exact vM_lookA
theorem wM_tup {f : M (List Rs)} {Q : Rs → List Sl → Prop} : wM (dTup f) ρ Q = wM f ρ fun rs ρ1 => wM (frzA rs) ρ1 fun ds ρ2 => ds.length ≤ 1000 ∧ Q (.fz (.tuple ds)) ρ2 := by
  simp only [wM_def, wO_def, wS_def, mutK_def, putK'_def, getK_def]; exact vM_tup
theorem wM_lst {f : M (List Rs)} {Q : Rs → List Sl → Prop} : wM (dLst f) ρ Q = wM f ρ fun rs ρ1 => wM (frzA rs) ρ1 fun ds ρ2 => ds.length ≤ 1000 ∧ Q (.ow (.list ds)) ρ2 := by
  simp only [wM_def, wO_def, wS_def, mutK_def, putK'_def, getK_def]; exact vM_lst
theorem wM_B {g : List D → Option Rs} {f : M (List Rs)} {Q : Rs → List Sl → Prop} : wM (dB g f) ρ Q = wM f ρ fun rs ρ1 => wM (lookA rs) ρ1 fun ds ρ2 => wO (g ds) fun r => Q r ρ2 := by
  simp only [wM_def, wO_def, wS_def, mutK_def, putK'_def, getK_def]; exact vM_B
theorem wM_isi {T : Ty} {f : M Rs} {Q : Rs → List Sl → Prop} : wM (dIsi T f) ρ Q = wM f ρ fun r ρ1 => wM (look r) ρ1 fun d ρ2 => wO (isTO T d) fun r => Q r ρ2 := by
  simp only [wM_def, wO_def, wS_def, mutK_def, putK'_def, getK_def]; exact vM_isi
theorem wM_me {c : D → Bool} {g : D → List D → Option Rs} {fo : M Rs} {fa : M (List Rs)} {Q : Rs → List Sl → Prop} : wM (dMe c g fo fa) ρ Q = wM fo ρ fun ro ρ1 => wM (look ro) ρ1 fun d0 ρ2 => c d0 = true ∧ wM fa ρ2 fun rs ρ3 => wM (look ro) ρ3 fun d ρ4 => wM (lookA rs) ρ4 fun ds ρ5 => wO (g d ds) fun r => Q r ρ5 := by
  simp only [wM_def, wO_def, wS_def, mutK_def, putK'_def, getK_def]; exact vM_me
theorem wM_sl {fa : M Rs} {fl fh : M (Option Int)} {Q : Rs → List Sl → Prop} : wM (dSl fa fl fh) ρ Q = wM fa ρ fun ra ρ1 => wM fl ρ1 fun l ρ2 => wM fh ρ2 fun h ρ3 => wM (look ra) ρ3 fun d ρ4 => wO (gSl d l h) fun r => Q r ρ4 := by
  simp only [wM_def, wO_def, wS_def, mutK_def, putK'_def, getK_def]; exact vM_sl
theorem wM_noP {Q : Option Int → List Sl → Prop} : wM dNoP ρ Q = Q none ρ := by
  simp only [wM_def, wO_def, wS_def, mutK_def, putK'_def, getK_def]; exact vM_noP
theorem wM_part {f : M Rs} {Q : Option Int → List Sl → Prop} : wM (dPart f) ρ Q = wM f ρ fun r ρ1 => wM (look r) ρ1 fun d ρ2 => wO (intD d) fun i => Q i ρ2 := by
  simp only [wM_def, wO_def, wS_def, mutK_def, putK'_def, getK_def]; exact vM_part
theorem wM_key {f : M Rs} {Q : Key → List Sl → Prop} : wM (dKey f) ρ Q = wM f ρ fun r ρ1 => wM (look r) ρ1 fun d ρ2 => wO (keyOf d) fun k => Q k ρ2 := by
  simp only [wM_def, wO_def, wS_def, mutK_def, putK'_def, getK_def]; exact vM_key
theorem wM_call {ls : List Bool} {sem : M Rs} {f : M (List Rs)} {Q : Rs → List Sl → Prop} : wM (dCall ls sem f) ρ Q = wM f ρ fun rs ρ1 => wM (argSA ls rs) ρ1 fun rs' ρ2 => (nmOk rs' && rs'.all (heldR ρ2)) = true ∧ callK sem rs' ρ2 Q := by
  simp only [wM_def, wO_def, wS_def, mutK_def, putK'_def, getK_def]; exact vM_call
theorem wM_argSA0 {Q : List Rs → List Sl → Prop} : wM (argSA [] []) ρ Q = Q [] ρ := by
  simp only [wM_def, wO_def, wS_def, mutK_def, putK'_def, getK_def]; exact vM_argSA0
theorem wM_argSA {l : Bool} {ls : List Bool} {r : Rs} {rs : List Rs} {Q : List Rs → List Sl → Prop} : wM (argSA (l :: ls) (r :: rs)) ρ Q = wM (argS l r) ρ fun r' ρ1 => wM (argSA ls rs) ρ1 fun rs' ρ2 => Q (r' :: rs') ρ2 := by
  simp only [wM_def, wO_def, wS_def, mutK_def, putK'_def, getK_def]; exact vM_argSA
theorem wM_argS_fz {l : Bool} {d : D} {Q : Rs → List Sl → Prop} : wM (argS l (.fz d)) ρ Q = Q (.fz d) ρ := by
  simp only [wM_def, wO_def, wS_def, mutK_def, putK'_def, getK_def]; exact vM_argS_fz
theorem wM_argS_ow {l : Bool} {d : D} {Q : Rs → List Sl → Prop} : wM (argS l (.ow d)) ρ Q = Q (.ow d) ρ := by
  simp only [wM_def, wO_def, wS_def, mutK_def, putK'_def, getK_def]; exact vM_argS_ow
theorem wM_argS_nm {l : Bool} {i : Nat} {Q : Rs → List Sl → Prop} : wM (argS l (.nm i)) ρ Q = argK ρ[i]? l i ρ Q := by
  simp only [wM_def, wO_def, wS_def, mutK_def, putK'_def, getK_def]; exact vM_argS_nm
theorem wM_mut {i : Nat} {c : D → Bool} {fr : Bool} {g : D → List D → Option (D × D)} {f : M (List Rs)} {Q : Rs → List Sl → Prop} : wM (dMut i c fr g f) ρ Q = mutK ρ[i]? i c fr g f ρ Q := by
  simp only [wM_def, wO_def, wS_def, mutK_def, putK'_def, getK_def]; exact vM_mut
theorem wM_yes {Q : Bool → List Sl → Prop} : wM dYes ρ Q = Q true ρ := by
  simp only [wM_def, wO_def, wS_def, mutK_def, putK'_def, getK_def]; exact vM_yes
theorem wS_seq {f g : DS} : wS (dSeq f g) ρ N T B C = wS f ρ (fun ρ1 => wS g ρ1 N T B C) T B C := by
  simp only [wM_def, wO_def, wS_def, mutK_def, putK'_def, getK_def]; exact vS_seq
theorem wS_pass : wS dPass ρ N T B C = N ρ := by
  simp only [wM_def, wO_def, wS_def, mutK_def, putK'_def, getK_def]; exact vS_pass
theorem wS_brk : wS dBrk ρ N T B C = B ρ := by
  simp only [wM_def, wO_def, wS_def, mutK_def, putK'_def, getK_def]; exact vS_brk
theorem wS_cnt : wS dCnt ρ N T B C = C ρ := by
  simp only [wM_def, wO_def, wS_def, mutK_def, putK'_def, getK_def]; exact vS_cnt
theorem wS_ret {f : M Rs} : wS (dRet f) ρ N T B C = wM f ρ T := by
  simp only [wM_def, wO_def, wS_def, mutK_def, putK'_def, getK_def]; exact vS_ret
theorem wS_drop {f : M Rs} : wS (dDrop f) ρ N T B C = wM f ρ fun _ ρ1 => N ρ1 := by
  simp only [wM_def, wO_def, wS_def, mutK_def, putK'_def, getK_def]; exact vS_drop
theorem wS_if {c : M Bool} {f g : DS} : wS (dIf c f g) ρ N T B C = wM c ρ fun b ρ1 => if b = true then wS f ρ1 N T B C else wS g ρ1 N T B C := by
  simp only [wM_def, wO_def, wS_def, mutK_def, putK'_def, getK_def]; exact vS_if
theorem wS_set {i : Nat} {f : M Rs} : wS (dSet i f) ρ N T B C = wM f ρ fun r ρ1 => wO (setR i r ρ1) N := by
  simp only [wM_def, wO_def, wS_def, mutK_def, putK'_def, getK_def]; exact vS_set
theorem wS_asg {g : DG} {f : M Rs} : wS (dAsg g f) ρ N T B C = wM f ρ fun r ρ1 => wM (frz r) ρ1 fun d ρ2 => wO (g d ρ2) N := by
  simp only [wM_def, wO_def, wS_def, mutK_def, putK'_def, getK_def]; exact vS_asg
theorem wS_par {is : List Nat} {f : M (List Rs)} : wS (dPar is f) ρ N T B C = wM f ρ fun rs ρ1 => wM (argSA (is.map fun _ => false) rs) ρ1 fun rs' ρ2 => wO (setQs is rs' ρ2) N := by
  simp only [wM_def, wO_def, wS_def, mutK_def, putK'_def, getK_def]; exact vS_par
theorem wS_put {i : Nat} {fi fe : M Rs} : wS (dPut i fi fe) ρ N T B C = wM fe ρ fun r ρ1 => wM (frz r) ρ1 fun dv ρ2 => isOw ρ2[i]? = true ∧ wM (dKey fi) ρ2 fun k ρ3 => putK' ρ3[i]? i k dv ρ3 N := by
  simp only [wM_def, wO_def, wS_def, mutK_def, putK'_def, getK_def]; exact vS_put
theorem wS_augS {g : G2} {i : Nat} {fi fe : M Rs} : wS (dAugS g i fi fe) ρ N T B C = (isOw ρ[i]? = true ∧ wM (dKey fi) ρ fun k ρ1 => getK ρ1[i]? k fun old => wM fe ρ1 fun r ρ2 => wM (look r) ρ2 fun dv ρ3 => wO (fzO (g old dv)) fun dn => putK' ρ3[i]? i k dn ρ3 N) := by
  simp only [wM_def, wO_def, wS_def, mutK_def, putK'_def, getK_def]; exact vS_augS
theorem wS_aug {g : G2} {i : Nat} {fe : M Rs} : wS (dAug g i fe) ρ N T B C = augK ρ[i]? fun d => wM fe ρ fun r ρ1 => wM (look r) ρ1 fun dv ρ2 => wO (fzO (g d dv)) fun dn => wO (setR i (.fz dn) ρ2) N := by
  rw [wS_def, vS_aug]
  have e : (fun d => wM fe ρ fun r ρ1 => wM (look r) ρ1 fun dv ρ2 => wO (fzO (g d dv)) fun dn => wO (setR i (.fz dn) ρ2) N) = fun d => vM fe ρ fun r ρ1 => vM (look r) ρ1 fun dv ρ2 => vO (fzO (g d dv)) fun dn => vO (setR i (.fz dn) ρ2) N := by
    funext d; simp only [wM_def, wO_def]
  rw [e]
theorem wS_for {w : M Wk} {g : DG} {body : DS} (h : wM w ρ fun p ρ1 => ∃ I : Nat → List Sl → Prop, I 0 ρ1 ∧ (∀ k d ρ, p.1[k]? = some d → I k ρ → wO (g d ρ) fun ρ2 => wS body ρ2 (I (k + 1)) (fun r ρ => T r (unl p.2 ρ)) (fun ρ => N (unl p.2 ρ)) (I (k + 1))) ∧ ∀ ρ, I p.1.length ρ → N (unl p.2 ρ)) :
    wS (dFor w g body) ρ N T B C := by
  simp only [wM_def, wO_def, wS_def, mutK_def, putK'_def, getK_def] at h ⊢; exact vS_for h
theorem wM_lcMap {α : Type} {own : List Nat} {w : M Wk} {g : DG} {tt : M Bool} {te : M Rs} {Q : Rs → List Sl → Prop} (enc : α → D) (xs : List α) (p : α → Bool) (f : α → D) (h : wM w ρ fun q ρ1 => q.1 = xs.map enc ∧ xs.length ≤ sizeLine ∧
    (∀ x ∈ xs, wO (g (enc x) (wipeR own ρ1)) fun ρ2 => wM tt ρ2 fun b ρ3 => b = p x ∧ if b = true then wM te ρ3 fun r ρ4 => wM (frz r) ρ4 fun y ρ5 => y = f x ∧ wipeR own ρ5 = wipeR own ρ1 else wipeR own ρ3 = wipeR own ρ1) ∧
    Q (.ow (.list ((xs.filter p).map f))) (unl q.2 (restore own ρ1 (wipeR own ρ1)))) : wM (dLc own w g tt te) ρ Q := by
  simp only [wM_def, wO_def, wS_def, mutK_def, putK'_def, getK_def] at h ⊢; exact vM_lcMap enc xs p f h
theorem putK'_ow {i : Nat} {k : Key} {dv d : D} : putK' (some (.ow d)) i k dv ρ N = wO (gPut d (kD k) dv) fun d' => N (ρ.set i (.ow d')) := rfl
theorem getK_ow {k : Key} {d : D} {Q : D → Prop} : getK (some (.ow d)) k Q = wO (gGet d (kD k)) Q := rfl
end
end DL
namespace DL
open PySem L2
/-! ### the reckoning of data -/
section
variable {i j : Int} {x y : Str} {ds es : List D} {d e : D} {n : Nat}
theorem gAdd_ii : gAdd (.int i) (.int j) = some (.fz (.int (i + j))) := rfl
theorem gAdd_ll (h : ds.length + es.length ≤ sizeLine) : gAdd (.list ds) (.list es) = some (.ow (.list (ds ++ es))) := if_pos h
theorem gAdd_tt (h : ds.length + es.length ≤ sizeLine) : gAdd (.tuple ds) (.tuple es) = some (.fz (.tuple (ds ++ es))) := if_pos h
theorem gSub_ii : gSub (.int i) (.int j) = some (.fz (.int (i - j))) := rfl
theorem gMul_l (h1 : -18446744073709551616 < i) (h2 : i < 18446744073709551616) : gMul (.int i) (.int j) = some (.fz (.int (i * j))) := if_pos (by unfold mulOk; rw [Bool.or_eq_true, decide_eq_true_eq]; exact .inl ⟨h1, h2⟩)
theorem gMul_r (h1 : -18446744073709551616 < j) (h2 : j < 18446744073709551616) : gMul (.int i) (.int j) = some (.fz (.int (i * j))) := if_pos (by unfold mulOk; rw [Bool.or_eq_true, decide_eq_true_eq, decide_eq_true_eq]; exact .inr ⟨h1, h2⟩)
theorem gDiv_ii (h1 : 0 < j) (h2 : j < 1073741824) : gDiv (.int i) (.int j) = some (.fz (.int (i / j))) := if_pos ⟨h1, h2⟩
theorem gMod_ii (h1 : 0 < j) : gMod (.int i) (.int j) = some (.fz (.int (i % j))) := if_pos h1
theorem gNeg_i : gNeg (.int i) = some (.fz (.int (-i))) := rfl
theorem gPow_ii (h1 : 0 ≤ j) (h2 : j ≤ 1000000) (h3 : i.natAbs < 18446744073709551616) : gPow (.int i) (.int j) = some (.fz (.int (i ^ j.toNat))) := if_pos ⟨h1, h2, h3⟩
theorem gPow_18 : gPow (.int 10) (.int 18) = some (.fz (.int 1000000000000000000)) := by
  rw [gPow_ii (by decide) (by decide) (by decide)]; rfl
theorem gEq_ii : gEq (.int i) (.int j) = some (decide (i = j)) := by
  show some (i == j) = _
  rw [show (i == j) = decide (i = j) from rfl]
theorem gEq_ss : gEq (.str x) (.str y) = some (decide (x = y)) := by
  show some (x == y) = _
  by_cases h : x = y
  · subst h; simp
  · rw [decide_eq_false h]; simpa using h
theorem gEq_bb {a b : Bool} : gEq (.bool a) (.bool b) = some (decide (a = b)) := by
  show some (a == b) = _
  cases a <;> cases b <;> rfl
theorem gNe_of {b : Bool} (h : gEq d e = some b) : gNe d e = some (!b) := by unfold gNe; rw [h]; rfl
theorem gNe_ii : gNe (.int i) (.int j) = some (!decide (i = j)) := gNe_of gEq_ii
theorem gNe_ss : gNe (.str x) (.str y) = some (!decide (x = y)) := gNe_of gEq_ss
theorem gLt_ii : gLt (.int i) (.int j) = some (decide (i < j)) := rfl
theorem gLe_ii : gLe (.int i) (.int j) = some (decide (i ≤ j)) := rfl
theorem gGt_ii : gGt (.int i) (.int j) = some (decide (j < i)) := rfl
theorem gGe_ii : gGe (.int i) (.int j) = some (decide (j ≤ i)) := rfl
theorem atI_of (h0 : 0 ≤ i) (h : ds[i.toNat]? = some d) : atI ds i = some d := by
  have e := atI_nat (xs := ds) (j := i.toNat) h
  rw [Int.toNat_of_nonneg h0] at e; exact e
theorem gIx_l (h0 : 0 ≤ i) (h : ds[i.toNat]? = some d) : gIx (.list ds) (.int i) = some (.fz d) := by
  show (atI ds i).map _ = _
  rw [atI_of h0 h]; rfl
theorem gIx_t (h0 : 0 ≤ i) (h : ds[i.toNat]? = some d) : gIx (.tuple ds) (.int i) = some (.fz d) := by
  show (atI ds i).map _ = _
  rw [atI_of h0 h]; rfl
theorem gIx_l0 : gIx (.list (d :: ds)) (.int 0) = some (.fz d) := gIx_l (by decide) rfl
theorem gIx_t0 : gIx (.tuple (d :: ds)) (.int 0) = some (.fz d) := gIx_t (by decide) rfl
theorem gIx_l1 {d1 : D} : gIx (.list (d :: d1 :: ds)) (.int 1) = some (.fz d1) := gIx_l (by decide) rfl
theorem gIx_t1 {d1 : D} : gIx (.tuple (d :: d1 :: ds)) (.int 1) = some (.fz d1) := gIx_t (by decide) rfl
theorem gIx_l2 {d1 d2 : D} : gIx (.list (d :: d1 :: d2 :: ds)) (.int 2) = some (.fz d2) := gIx_l (by decide) rfl
theorem gIx_t2 {d1 d2 : D} : gIx (.tuple (d :: d1 :: d2 :: ds)) (.int 2) = some (.fz d2) := gIx_t (by decide) rfl
theorem gIx_t3 {d1 d2 d3 : D} : gIx (.tuple (d :: d1 :: d2 :: d3 :: ds)) (.int 3) = some (.fz d3) := gIx_t (by decide) rfl
theorem gIx_lm {α : Type} {f : α → D} {xs : List α} {k : Nat} (h : k < xs.length) : gIx (.list (xs.map f)) (.int (k : Int)) = some (.fz (f xs[k])) := gIx_l (by omega) (by rw [List.getElem?_map, Int.toNat_natCast, List.getElem?_eq_getElem h]; rfl)
theorem gIx_tm {α : Type} {f : α → D} {xs : List α} {k : Nat} (h : k < xs.length) : gIx (.tuple (xs.map f)) (.int (k : Int)) = some (.fz (f xs[k])) := gIx_t (by omega) (by rw [List.getElem?_map, Int.toNat_natCast, List.getElem?_eq_getElem h]; rfl)
theorem gLen_l : gLen [.list ds] = some (.fz (.int (ds.length : Nat))) := rfl
theorem gLen_t : gLen [.tuple ds] = some (.fz (.int (ds.length : Nat))) := rfl
theorem gLen_d {kvs : List (D × D)} (h : isK kvs = true) : gLen [.dict kvs] = some (.fz (.int (kvs.length : Nat))) := by simp only [gLen, h, if_true]
theorem gAbs_i : gAbs [.int i] = some (.fz (.int (if i < 0 then -i else i))) := rfl
theorem gInt_i : gInt [.int i] = some (.fz (.int i)) := rfl
theorem gTuple_l : gTuple [.list ds] = some (.fz (.tuple ds)) := rfl
theorem gTuple_t : gTuple [.tuple ds] = some (.fz (.tuple ds)) := rfl
theorem gList_l : gList [.list ds] = some (.ow (.list ds)) := rfl
theorem gList_t : gList [.tuple ds] = some (.ow (.list ds)) := rfl
theorem gAppend_l (h : ds.length < sizeLine) : gAppend (.list ds) [d] = some (.list (ds ++ [d]), .none) := if_pos h
theorem gExtend_l (h : ds.length + es.length ≤ sizeLine) : gExtend (.list ds) [.list es] = some (.list (ds ++ es), .none) := if_pos h
theorem gMax_ii : gMax [.int i, .int j] = some (.fz (.int (max i j))) := by
  show some (Rs.fz (PyData.int (if j > i then j else i))) = _
  congr 3
  split <;> omega
theorem gMin_ii : gMin [.int i, .int j] = some (.fz (.int (min i j))) := by
  show some (Rs.fz (PyData.int (if j < i then j else i))) = _
  congr 3
  split <;> omega
theorem gMin_l {ns : List Int} (h : ns ≠ []) : gMin [.list (ns.map .int)] = some (.fz (.int (minL ns))) := by
  show (intsOf (ns.map .int)).bind _ = _
  rw [intsOf_map]; exact if_neg h
theorem gSum_l {ns : List Int} : gSum [.list (ns.map .int)] = some (.fz (.int ns.sum)) := by
  show (intsOf (ns.map .int)).map _ = _
  rw [intsOf_map]; rfl
theorem gAll_l {ns : List Bool} : gAll [.list (ns.map .bool)] = some (.fz (.bool (ns.all id))) := by
  show (boolsOf (ns.map .bool)).map _ = _
  rw [boolsOf_map]; rfl
theorem gIs_none : gIs d .none = some (isNone d) := by
  cases d <;> rfl
end
/-! ### rules with folded continuations -/
section
variable {ρ : List Sl} {N : List Sl → Prop} {T : Rs → List Sl → Prop} {B C : List Sl → Prop}
def mutO (o : Option Sl) (i : Nat) (g : D → List D → Option (D × D)) (ds : List D) (ρ : List Sl) (Q : Rs → List Sl → Prop) (_ : Tag Q := .mk) : Prop := match o with
  | some (.ow d) => wO (g d ds) fun p => Q (.fz p.2) (ρ.set i (.ow p.1))
  | _ => False
theorem mutK_ow' {i : Nat} {c : D → Bool} {fr : Bool} {g : D → List D → Option (D × D)} {f : M (List Rs)} {Q : Rs → List Sl → Prop} {d0 : D} : mutK (some (.ow d0)) i c fr g f ρ Q = (c d0 = true ∧ wM f ρ fun rs ρ1 => wM (if fr = true then frzA rs else lookA rs) ρ1 fun ds ρ2 => mutO ρ2[i]? i g ds ρ2 Q) := rfl
theorem mutO_ow {i : Nat} {g : D → List D → Option (D × D)} {ds : List D} {d : D} {Q : Rs → List Sl → Prop} : mutO (some (.ow d)) i g ds ρ Q = wO (g d ds) fun p => Q (.fz p.2) (ρ.set i (.ow p.1)) := rfl
def retK (ms : List Bool) (Q : Rs → List Sl → Prop) (r : Rs) (ρ : List Sl) (_ : Tag Q := .mk) : Prop := match r with
  | .fz d => Q (.fz d) (outP ms ρ)
  | .ow d => Q (.ow d) (outP ms ρ)
  | .nm i => match ρ[i]? with
    | some (.fz d) => Q (.fz d) (outP ms ρ)
    | some (.ow d) => if ms.length ≤ i then Q (.ow d) (outP ms ρ) else Q (.fz d) (outP ms (ρ.set i (.fz d)))
    | some (.lk d) => Q (.fz d) (outP ms (ρ.set i (.fz d)))
    | _ => False
def retO (o : Option Sl) (i : Nat) (ms : List Bool) (Q : Rs → List Sl → Prop) (ρ : List Sl) (_ : Tag Q := .mk) : Prop := match o with
    | some (.fz d) => Q (.fz d) (outP ms ρ)
    | some (.ow d) => if ms.length ≤ i then Q (.ow d) (outP ms ρ) else Q (.fz d) (outP ms (ρ.set i (.fz d)))
    | some (.lk d) => Q (.fz d) (outP ms (ρ.set i (.fz d)))
    | _ => False
variable {ms : List Bool} {Q : Rs → List Sl → Prop} {d : D} {i : Nat}
theorem retK_fz : retK ms Q (.fz d) ρ = Q (.fz d) (outP ms ρ) := rfl
theorem retK_ow : retK ms Q (.ow d) ρ = Q (.ow d) (outP ms ρ) := rfl
theorem retK_nm : retK ms Q (.nm i) ρ = retO ρ[i]? i ms Q ρ := rfl
theorem retO_fz : retO (some (.fz d)) i ms Q ρ = Q (.fz d) (outP ms ρ) := rfl
theorem retO_ow : retO (some (.ow d)) i ms Q ρ = if ms.length ≤ i then Q (.ow d) (outP ms ρ) else Q (.fz d) (outP ms (ρ.set i (.fz d))) := rfl
theorem retO_lk : retO (some (.lk d)) i ms Q ρ = Q (.fz d) (outP ms (ρ.set i (.fz d))) := rfl
theorem wM_run' {n : Nat} {body : DS} : wM (runDef ms n body) ρ Q = wS body (ρ ++ List.replicate (n - ρ.length) .em) (fun ρ' => Q (.fz .none) (outP ms ρ')) (retK ms Q) nope nope := by
  rw [wM_def, wS_def]; exact vM_run
/-- a spec by an equation -/
theorem run_eq {n : Nat} {body : DS} {r : Rs} {out : List Sl} (h : wS body (ρ ++ List.replicate (n - ρ.length) .em) (fun ρ' => .fz .none = r ∧ outP ms ρ' = out) (retK ms fun b ρ1 => b = r ∧ ρ1 = out) nope nope) : runDef ms n body ρ = .ok r out :=
  wM_eq (by rw [wM_run']; exact h)
theorem setR_fz (h : i < ρ.length) : setR i (.fz d) ρ = some (ρ.set i (.fz d)) := if_pos h
theorem setR_ow (h : i < ρ.length) : setR i (.ow d) ρ = some (ρ.set i (.ow d)) := if_pos h
def setK (o : Option Sl) (i j : Nat) (ρ : List Sl) : Option (List Sl) := match o with
  | some (.fz d) => if i < ρ.length then some (ρ.set i (.fz d)) else none
  | some (.ow d) => if i < ρ.length then some ((ρ.set j (.fz d)).set i (.fz d)) else none
  | some (.lk d) => if i < ρ.length then some ((ρ.set j (.fz d)).set i (.fz d)) else none
  | _ => none
theorem setR_nm {j : Nat} : setR i (.nm j) ρ = setK ρ[j]? i j ρ := by
  unfold setR setK frz
  simp only
  cases ρ[j]? with
  | none => simp
  | some s => cases s <;> simp
theorem setK_fz {j : Nat} (h : i < ρ.length) : setK (some (.fz d)) i j ρ = some (ρ.set i (.fz d)) := if_pos h
theorem setK_ow {j : Nat} (h : i < ρ.length) : setK (some (.ow d)) i j ρ = some ((ρ.set j (.fz d)).set i (.fz d)) := if_pos h
theorem setK_lk {j : Nat} (h : i < ρ.length) : setK (some (.lk d)) i j ρ = some ((ρ.set j (.fz d)).set i (.fz d)) := if_pos h
theorem gN_ok (h : i < ρ.length) : gN i d ρ = some (ρ.set i (.fz d)) := if_pos h
theorem wO_gsC {g : DG} {gs : DGs} {ds : List D} : wO (gsC g gs (d :: ds) ρ) N = wO (g d ρ) fun ρ1 => wO (gs ds ρ1) N := by
  rw [wO_def, wO_def]
  show vO (match g d ρ with | some ρ' => gs ds ρ' | none => none) N = _
  cases g d ρ with
  | none => rfl
  | some ρ1 => show _ = wO _ _; rw [wO_def]
theorem gT_ok {gs : DGs} {ds : List D} {n : Nat} (h : ds.length = n) : gT n gs (.tuple ds) ρ = gs ds ρ := if_pos h
theorem gsN_ok : gsN [] ρ = some ρ := rfl
theorem setQs_nil : setQs [] [] ρ = some ρ := rfl
theorem setQs_fz {is : List Nat} {rs : List Rs} (h : i < ρ.length) : setQs (i :: is) (.fz d :: rs) ρ = setQs is rs (ρ.set i (.fz d)) := by
  show (match setQ i (.fz d) ρ with | some ρ' => setQs is rs ρ' | none => none) = _
  rw [show setQ i (.fz d) ρ = some (ρ.set i (.fz d)) from if_pos h]
theorem setQs_ow {is : List Nat} {rs : List Rs} (h : i < ρ.length) : setQs (i :: is) (.ow d :: rs) ρ = setQs is rs (ρ.set i (.ow d)) := by
  show (match setQ i (.ow d) ρ with | some ρ' => setQs is rs ρ' | none => none) = _
  rw [show setQ i (.ow d) ρ = some (ρ.set i (.ow d)) from if_pos h]
theorem outP_t {bs : List Bool} {s : Sl} {ss : List Sl} : outP (true :: bs) (s :: ss) = s :: outP bs ss := rfl
theorem outP_f {bs : List Bool} {s : Sl} {ss : List Sl} : outP (false :: bs) (s :: ss) = .em :: outP bs ss := rfl
theorem outP_n {ss : List Sl} : outP [] ss = [] := by cases ss <;> rfl
def wkO (o : Option Sl) (i : Nat) (ρ : List Sl) (Q : Wk → List Sl → Prop) (_ : Tag Q := .mk) : Prop := match o with
  | some (.fz d) => wO (seqItems d) fun ds => Q (ds, none) ρ
  | some (.ow d) => wO (seqItems d) fun ds => Q (ds, some i) (ρ.set i (.lk d))
  | some (.lk d) => wO (seqItems d) fun ds => Q (ds, none) ρ
  | _ => False
theorem vO_map {α β : Type} {o : Option α} {f : α → β} {Q : β → Prop} : vO (o.map f) Q = vO o fun a => Q (f a) := by cases o <;> rfl
theorem wk_nm {i : Nat} {Q : Wk → List Sl → Prop} : wM (dWk (pr (.nm i))) ρ Q = wkO ρ[i]? i ρ Q := by
  have hb : ∀ (k : Rs → M Wk), bd (pr (.nm i)) k ρ = k (.nm i) ρ := fun _ => rfl
  rw [wM_def]
  unfold vM dWk wkO
  simp only [wO_def]
  rw [hb]
  dsimp only
  cases ρ[i]? with
  | none => rfl
  | some s =>
    cases s with
    | em => rfl
    | fz d => exact Eq.trans (vM_opt (o := (seqItems d).map fun ds => (ds, (none : Option Nat)))) vO_map
    | ow d => exact Eq.trans (vM_opt (o := (seqItems d).map fun ds => (ds, some i))) vO_map
    | lk d => exact Eq.trans (vM_opt (o := (seqItems d).map fun ds => (ds, (none : Option Nat)))) vO_map
theorem wkO_fz {i : Nat} {d : D} {Q : Wk → List Sl → Prop} : wkO (some (.fz d)) i ρ Q = wO (seqItems d) fun ds => Q (ds, none) ρ := rfl
theorem wkO_ow {i : Nat} {d : D} {Q : Wk → List Sl → Prop} : wkO (some (.ow d)) i ρ Q = wO (seqItems d) fun ds => Q (ds, some i) (ρ.set i (.lk d)) := rfl
theorem wkO_lk {i : Nat} {d : D} {Q : Wk → List Sl → Prop} : wkO (some (.lk d)) i ρ Q = wO (seqItems d) fun ds => Q (ds, none) ρ := rfl
theorem wk_fz {d : D} {Q : Wk → List Sl → Prop} : wM (dWk (pr (.fz d))) ρ Q = wO (seqItems d) fun ds => Q (ds, none) ρ := by
  rw [wM_def, wO_def]; exact Eq.trans (vM_opt (o := (seqItems d).map fun ds => (ds, (none : Option Nat)))) vO_map
theorem wk_ow {d : D} {Q : Wk → List Sl → Prop} : wM (dWk (pr (.ow d))) ρ Q = wO (seqItems d) fun ds => Q (ds, none) ρ := by
  rw [wM_def, wO_def]; exact Eq.trans (vM_opt (o := (seqItems d).map fun ds => (ds, (none : Option Nat)))) vO_map
theorem wM_wkE {f : M Rs} {Q : Wk → List Sl → Prop} : wM (dWk f) ρ Q = wM f ρ fun r ρ1 => wM (dWk (pr r)) ρ1 Q := by
  simp only [wM_def]; exact vM_wk
theorem wM_wkV {i : Nat} {Q : Wk → List Sl → Prop} : wM (dWk (dVar i)) ρ Q = wM (dVar i) ρ fun r ρ1 => wM (dWk (pr r)) ρ1 Q := wM_wkE
theorem wM_wkT {f : M (List Rs)} {Q : Wk → List Sl → Prop} : wM (dWk (dTup f)) ρ Q = wM (dTup f) ρ fun r ρ1 => wM (dWk (pr r)) ρ1 Q := wM_wkE
theorem wM_wkL {f : M (List Rs)} {Q : Wk → List Sl → Prop} : wM (dWk (dLst f)) ρ Q = wM (dLst f) ρ fun r ρ1 => wM (dWk (pr r)) ρ1 Q := wM_wkE
theorem wM_wk2 {g : G2} {fa fb : M Rs} {Q : Wk → List Sl → Prop} : wM (dWk (dOp2 g fa fb)) ρ Q = wM (dOp2 g fa fb) ρ fun r ρ1 => wM (dWk (pr r)) ρ1 Q := wM_wkE
theorem wM_wkB {g : List D → Option Rs} {f : M (List Rs)} {Q : Wk → List Sl → Prop} : wM (dWk (dB g f)) ρ Q = wM (dB g f) ρ fun r ρ1 => wM (dWk (pr r)) ρ1 Q := wM_wkE
theorem wM_wkC {ls : List Bool} {s : M Rs} {f : M (List Rs)} {Q : Wk → List Sl → Prop} : wM (dWk (dCall ls s f)) ρ Q = wM (dCall ls s f) ρ fun r ρ1 => wM (dWk (pr r)) ρ1 Q := wM_wkE
theorem items_l {ds : List D} : seqItems (.list ds) = some ds := rfl
theorem items_t {ds : List D} : seqItems (.tuple ds) = some ds := rfl
def rng1 : List D → Option Wk
  | [.int j] => if -(2 ^ 62) ≤ j ∧ j < 2 ^ 62 then some ((List.range j.toNat).map fun k => .int (k : Nat), none) else none
  | _ => none
def rng2 : List D → Option Wk
  | [.int i, .int j] => if -(2 ^ 62) ≤ i ∧ i < 2 ^ 62 ∧ -(2 ^ 62) ≤ j ∧ j < 2 ^ 62 then some ((List.range (j - i).toNat).map fun k => .int (i + (k : Nat)), none) else none
  | _ => none
theorem wM_rng1 {f : M (List Rs)} {Q : Wk → List Sl → Prop} : wM (dRng1 f) ρ Q = wM f ρ fun rs ρ1 => wM (lookA rs) ρ1 fun ds ρ2 => wO (rng1 ds) fun p => Q p ρ2 := by
  simp only [wM_def, wO_def]; unfold dRng1; simp only [vM_bd, vM_opt]; rfl
theorem wM_rng2 {f : M (List Rs)} {Q : Wk → List Sl → Prop} : wM (dRng2 f) ρ Q = wM f ρ fun rs ρ1 => wM (lookA rs) ρ1 fun ds ρ2 => wO (rng2 ds) fun p => Q p ρ2 := by
  simp only [wM_def, wO_def]; unfold dRng2; simp only [vM_bd, vM_opt]; rfl
theorem rng1_ok {j : Int} (h1 : -4611686018427387904 ≤ j) (h2 : j < 4611686018427387904) : rng1 [.int j] = some ((List.range j.toNat).map fun k => .int (k : Nat), none) := if_pos ⟨h1, h2⟩
theorem rng2_ok {i j : Int} (h0 : -4611686018427387904 ≤ i) (h3 : i < 4611686018427387904) (h1 : -4611686018427387904 ≤ j) (h2 : j < 4611686018427387904) : rng2 [.int i, .int j] = some ((List.range (j - i).toNat).map fun k => .int (i + (k : Nat)), none) := if_pos ⟨h0, h3, h1, h2⟩
def unlK (o : Option Sl) (i : Nat) (ρ : List Sl) : List Sl := match o with
  | some (.lk d) => ρ.set i (.ow d)
  | _ => ρ
theorem unl_some {i : Nat} : unl (some i) ρ = unlK ρ[i]? i ρ := by
  unfold unl unlK; rfl
theorem unlK_lk {i : Nat} {d : D} : unlK (some (.lk d)) i ρ = ρ.set i (.ow d) := rfl
theorem unl_none : unl none ρ = ρ := rfl
/-! ### tests and choices -/
theorem wM_not {t : M Bool} {Q : Bool → List Sl → Prop} : wM (dNot t) ρ Q = wM t ρ fun b ρ1 => Q (!b) ρ1 := by
  simp only [wM_def, wO_def]; unfold dNot; simp only [vM_bd, vM_opt, vM_ite, vM_pr]
theorem wM_tru {f : M Rs} {Q : Bool → List Sl → Prop} : wM (dTru f) ρ Q = wM f ρ fun r ρ1 => wM (look r) ρ1 fun d ρ2 => wO (tru d) fun b => Q b ρ2 := by
  simp only [wM_def, wO_def]; unfold dTru; simp only [vM_bd, vM_opt, vM_ite, vM_pr]
theorem wM_and {a b : M Bool} {Q : Bool → List Sl → Prop} : wM (dAnd a b) ρ Q = wM a ρ fun k ρ1 => if k = true then wM b ρ1 Q else Q false ρ1 := by
  simp only [wM_def, wO_def]; unfold dAnd; simp only [vM_bd, vM_opt, vM_ite, vM_pr]
theorem wM_or {a b : M Bool} {Q : Bool → List Sl → Prop} : wM (dOr a b) ρ Q = wM a ρ fun k ρ1 => if k = true then Q true ρ1 else wM b ρ1 Q := by
  simp only [wM_def, wO_def]; unfold dOr; simp only [vM_bd, vM_opt, vM_ite, vM_pr]
theorem wM_andV {a b : M Rs} {Q : Rs → List Sl → Prop} : wM (dAndV a b) ρ Q = wM a ρ fun r ρ1 => wM (look r) ρ1 fun d ρ2 => wO (tru d) fun k => if k = true then wM b ρ2 Q else wM (frz r) ρ2 fun d ρ3 => Q (.fz d) ρ3 := by
  simp only [wM_def, wO_def]; unfold dAndV; simp only [vM_bd, vM_opt, vM_ite, vM_pr]
theorem wM_orV {a b : M Rs} {Q : Rs → List Sl → Prop} : wM (dOrV a b) ρ Q = wM a ρ fun r ρ1 => wM (look r) ρ1 fun d ρ2 => wO (tru d) fun k => if k = true then wM (frz r) ρ2 (fun d ρ3 => Q (.fz d) ρ3) else wM b ρ2 Q := by
  simp only [wM_def, wO_def]; unfold dOrV; simp only [vM_bd, vM_opt, vM_ite, vM_pr]
theorem wM_notV {a : M Rs} {Q : Rs → List Sl → Prop} : wM (dNotV a) ρ Q = wM a ρ fun r ρ1 => wM (look r) ρ1 fun d ρ2 => wO (tru d) fun k => Q (.fz (.bool (!k))) ρ2 := by
  simp only [wM_def, wO_def]; unfold dNotV; simp only [vM_bd, vM_opt, vM_ite, vM_pr]
theorem wM_ifE {c : M Bool} {a b : M Rs} {Q : Rs → List Sl → Prop} : wM (dIfE c a b) ρ Q = wM c ρ fun k ρ1 => if k = true then wM a ρ1 Q else wM b ρ1 Q := by
  simp only [wM_def, wO_def]; unfold dIfE; simp only [vM_bd, vM_opt, vM_ite, vM_pr]
theorem wM_chain {g g' : D → D → Option Bool} {fa fb fc : M Rs} {Q : Rs → List Sl → Prop} : wM (dChain g g' fa fb fc) ρ Q = wM fa ρ fun ra ρ1 => wM fb ρ1 fun rb ρ2 => wM (look ra) ρ2 fun da ρ3 => wM (look rb) ρ3 fun db ρ4 => wO (g da db) fun k =>
    if k = true then wM fc ρ4 fun rc ρ5 => wM (look rb) ρ5 fun db ρ6 => wM (look rc) ρ6 fun dc ρ7 => wO (g' db dc) fun k => Q (.fz (.bool k)) ρ7 else Q (.fz (.bool false)) ρ4 := by
  simp only [wM_def, wO_def]; unfold dChain; simp only [vM_bd, vM_opt, vM_ite, vM_pr]
theorem wM_chainT {g g' : D → D → Option Bool} {fa fb fc : M Rs} {Q : Bool → List Sl → Prop} : wM (dChainT g g' fa fb fc) ρ Q = wM fa ρ fun ra ρ1 => wM fb ρ1 fun rb ρ2 => wM (look ra) ρ2 fun da ρ3 => wM (look rb) ρ3 fun db ρ4 => wO (g da db) fun k =>
    if k = true then wM fc ρ4 fun rc ρ5 => wM (look rb) ρ5 fun db ρ6 => wM (look rc) ρ6 fun dc ρ7 => wO (g' db dc) fun k => Q k ρ7 else Q false ρ4 := by
  simp only [wM_def, wO_def]; unfold dChainT; simp only [vM_bd, vM_opt, vM_ite, vM_pr]
theorem wM_dispN {ps : List (M Rs × M Rs)} {Q : Rs → List Sl → Prop} : wM (dDisp ps) ρ Q = wM (dPairs ps) ρ fun krs ρ1 => wM (frzA (krs.map (·.2))) ρ1 fun ds ρ2 => krs.length ≤ 15 ∧ Q (.ow (.dict ((List.zip (krs.map (·.1)) ds).foldl (fun acc kv => dput kv.1 kv.2 acc) []))) ρ2 := by
  simp only [wM_def]; unfold dDisp; simp only [vM_bd]
  congr 1; funext krs ρ1; congr 1; funext ds ρ2
  by_cases h : krs.length ≤ 15
  · rw [if_pos h]; simp only [vM_pr, h, true_and]
  · rw [if_neg h]; exact propext ⟨fun z => (vM_iff.mp z).elim fun a ⟨_, e, _⟩ => (nomatch e), fun z => (h z.1).elim⟩
theorem wM_pairs0 {Q : List (Key × Rs) → List Sl → Prop} : wM (dPairs []) ρ Q = Q [] ρ := wM_pr
theorem wM_pairs {p : M Rs × M Rs} {ps : List (M Rs × M Rs)} {Q : List (Key × Rs) → List Sl → Prop} : wM (dPairs (p :: ps)) ρ Q = wM (dKey p.1) ρ fun k ρ1 => wM p.2 ρ1 fun r ρ2 => wM (dPairs ps) ρ2 fun rs ρ3 => Q ((k, r) :: rs) ρ3 := by
  simp only [wM_def]
  conv => lhs; unfold dPairs
  simp only [vM_bd, vM_pr]
theorem wM_new {Q : Rs → List Sl → Prop} : wM dNew ρ Q = Q (.ow (.dict [])) ρ := wM_pr
theorem tru_b {b : Bool} : tru (.bool b) = some b := rfl
theorem tru_n : tru .none = some false := rfl
theorem tru_l {ds : List D} : tru (.list ds) = some (!ds.isEmpty) := rfl
theorem tru_t {ds : List D} : tru (.tuple ds) = some (!ds.isEmpty) := rfl
theorem key_i {i : Int} : keyOf (.int i) = some (.inl i) := rfl
theorem key_s {x : Str} : keyOf (.str x) = some (.inr x) := rfl
theorem gIAdd_ii {i j : Int} : gIAdd (.int i) (.int j) = some (.fz (.int (i + j))) := rfl
theorem gISub_ii {i j : Int} : gISub (.int i) (.int j) = some (.fz (.int (i - j))) := rfl
def callR (r : R Rs) (rs : List Rs) (ρ : List Sl) (Q : Rs → List Sl → Prop) (_ : Tag Q := .mk) : Prop := match r with
  | .ok (.fz d) ρp => Q (.fz d) (wb rs ρp ρ)
  | .ok (.ow d) ρp => Q (.ow d) (wb rs ρp ρ)
  | _ => False
theorem callK_R {sem : M Rs} {rs : List Rs} {Q : Rs → List Sl → Prop} : callK sem rs ρ Q = callR (sem (rs.map (slotOf ρ))) rs ρ Q := by
  unfold callK callR vR
  cases sem (rs.map (slotOf ρ)) with
  | bad => rfl
  | ok r ρp => cases r <;> rfl
theorem callR_fz {rs : List Rs} {d : D} {ρp : List Sl} {Q : Rs → List Sl → Prop} : callR (.ok (.fz d) ρp) rs ρ Q = Q (.fz d) (wb rs ρp ρ) := rfl
theorem callR_ow {rs : List Rs} {d : D} {ρp : List Sl} {Q : Rs → List Sl → Prop} : callR (.ok (.ow d) ρp) rs ρ Q = Q (.ow d) (wb rs ρp ρ) := rfl
theorem rest_nil {ρ' : List Sl} : restore [] ρ ρ' = ρ' := rfl
def restK (o : Option Sl) (i : Nat) (ρ : List Sl) : List Sl := match o with
  | some s => ρ.set i s
  | none => ρ
theorem rest_cons {i : Nat} {is : List Nat} {ρ' : List Sl} : restore (i :: is) ρ ρ' = restK ρ[i]? i (restore is ρ ρ') := by
  conv => lhs; unfold restore
  cases ρ[i]? <;> rfl
theorem restK_some {i : Nat} {s : Sl} : restK (some s) i ρ = ρ.set i s := rfl
theorem wipe_nil : wipeR [] ρ = ρ := rfl
theorem wipe_cons {i : Nat} {is : List Nat} : wipeR (i :: is) ρ = (wipeR is ρ).set i .em := rfl
/-! ### loops, what is walked told apart -/
theorem wS_forI {w : M Wk} {g : DG} {body : DS} {ds : List D} {l : Option Nat} {ρ1 : List Sl} (hw : wM w ρ fun p ρ2 => p = (ds, l) ∧ ρ2 = ρ1) (I : Nat → List Sl → Prop) (h0 : I 0 ρ1)
    (st : ∀ k d ρ, ds[k]? = some d → I k ρ → wO (g d ρ) fun ρ2 => wS body ρ2 (I (k + 1)) (fun r ρ => T r (unl l ρ)) (fun ρ => N (unl l ρ)) (I (k + 1))) (fin : ∀ ρ, I ds.length ρ → N (unl l ρ)) : wS (dFor w g body) ρ N T B C :=
  wS_for (wM_mono hw fun p ρ2 ⟨e1, e2⟩ => by subst e1; subst e2; exact ⟨I, h0, st, fin⟩)
/-- a comprehension that changes nothing: its value -/
theorem wM_lcM {α : Type} {own : List Nat} {w : M Wk} {g : DG} {tt : M Bool} {te : M Rs} {Q : Rs → List Sl → Prop} {l : Option Nat} {ρ1 : List Sl} {enc : α → D} {xs : List α} (hw : wM w ρ fun p ρ2 => p = (xs.map enc, l) ∧ ρ2 = ρ1) (p : α → Bool) (f : α → D) (hl : xs.length ≤ sizeLine)
    (st : ∀ x ∈ xs, wO (g (enc x) (wipeR own ρ1)) fun ρ2 => wM tt ρ2 fun b ρ3 => b = p x ∧ if b = true then wM te ρ3 fun r ρ4 => wM (frz r) ρ4 fun y ρ5 => y = f x ∧ wipeR own ρ5 = wipeR own ρ1 else wipeR own ρ3 = wipeR own ρ1)
    (fin : Q (.ow (.list ((xs.filter p).map f))) (unl l (restore own ρ1 (wipeR own ρ1)))) : wM (dLc own w g tt te) ρ Q :=
  wM_lcMap enc xs p f (wM_mono hw fun q ρ2 ⟨e1, e2⟩ => by subst e1; subst e2; exact ⟨rfl, hl, st, fin⟩)
theorem filter_yes {α : Type} (xs : List α) : xs.filter (fun _ => true) = xs := by simp
theorem at_map {α : Type} {enc : α → D} {xs : List α} {k : Nat} {d : D} (h : (xs.map enc)[k]? = some d) : ∃ hk : k < xs.length, d = enc xs[k] := by
  rw [List.getElem?_map] at h
  rcases Nat.lt_or_ge k xs.length with z | z
  · rw [List.getElem?_eq_getElem z] at h; cases h; exact ⟨z, rfl⟩
  · rw [List.getElem?_eq_none z] at h; cases h
theorem at_rng {n k : Nat} {d : D} {f : Nat → D} (h : ((List.range n).map f)[k]? = some d) : k < n ∧ d = f k := by
  obtain ⟨hk, e⟩ := at_map h
  rw [List.getElem_range] at e
  exact ⟨by simpa using hk, e⟩
end
end DL
/-! what the laws draw: the same in every law -/
namespace DL
open PySem L2
def drawsB : DS :=
 (dSeq (dSet 2 (dLst dNil))
 (dSeq (dSet 3 (dC (.int 7)))
 (dSeq (dFor (dRng1 (dCons (dB gLen (dCons (dVar 0) dNil)) dNil)) (gN 4)
 ((dSeq (dSet 5 (dB gAbs (dCons (dB gInt (dCons (dOp2 gIx (dVar 0) (dVar 4)) dNil)) dNil)))
 (dSeq (dSet 3 (dOp2 gMod (dB gInt (dCons (dOp2 gAdd (dOp2 gAdd (dOp2 gMul (dVar 3) (dC (.int 48271))) (dOp2 gMod (dVar 5) (dC (.int 1000003)))) (dVar 4)) dNil)) (dC (.int 65537))))
 (dSeq (dSet 6 (dC (.int 0)))
 (dSeq (dIf (dOp2T gGe (dVar 5) (dOp2 gPow (dC (.int 10)) (dC (.int 18))))
 ((dSet 6 (dVar 5)))
 ((dSeq (dDrop (dMut 2 isLst true gAppend (dCons (dOp2 gMod (dB gInt (dCons (dVar 5) dNil)) (dC (.int 997))) dNil)))
 (dDrop (dMut 2 isLst true gAppend (dCons (dOp2 gMod (dOp2 gMod (dB gInt (dCons (dOp2 gAdd (dOp2 gMul (dVar 3) (dC (.int 69621))) (dC (.int 5))) dNil)) (dC (.int 65521))) (dC (.int 997))) dNil))))))
 (dFor (dRng1 (dCons (dC (.int 60)) dNil)) (gN 7)
 ((dIf (dOp2T gGt (dVar 6) (dC (.int 0)))
 ((dSeq (dDrop (dMut 2 isLst true gAppend (dCons (dOp2 gMod (dB gInt (dCons (dVar 6) dNil)) (dC (.int 997))) dNil)))
 (dSet 6 (dOp2 gDiv (dVar 6) (dC (.int 997))))))
 (dPass))))))))))
 (dSeq (dFor (dRng1 (dCons (dVar 1) dNil)) (gN 4)
 ((dSeq (dSet 3 (dOp2 gMod (dB gInt (dCons (dOp2 gAdd (dOp2 gAdd (dOp2 gMul (dVar 3) (dC (.int 16807))) (dVar 4)) (dC (.int 1))) dNil)) (dC (.int 65537))))
 (dDrop (dMut 2 isLst true gAppend (dCons (dOp2 gMod (dB gInt (dCons (dVar 3) dNil)) (dC (.int 997))) dNil))))))
 (dRet (dSl (dVar 2) dNoP (dPart (dVar 1))))))))
def nextB : DS :=
 (dSeq (dAugS gIAdd 0 (dC (.str "at")) (dC (.int 1)))
 (dSeq (dIf (dOp2T gGt (dOp2 gIx (dVar 0) (dC (.str "at"))) (dB gLen (dCons (dOp2 gIx (dVar 0) (dC (.str "draws"))) dNil)))
 ((dRet (dC (.int 0))))
 (dPass))
 (dRet (dOp2 gMod (dB gInt (dCons (dOp2 gIx (dOp2 gIx (dVar 0) (dC (.str "draws"))) (dOp2 gSub (dOp2 gIx (dVar 0) (dC (.str "at"))) (dC (.int 1)))) dNil)) (dVar 1)))))
def drawsF : M Rs := runDef [true, true] 8 drawsB
def nextF : M Rs := runDef [true, true] 2 nextB
/-- the drawer: what it holds -/
def Wd (ds : List Int) (at_ : Int) : D := .dict [(.str "draws", .list (ds.map .int)), (.str "at", .int at_)]
def W (ds : List Int) (at_ : Int) : Sl := .ow (Wd ds at_)
theorem ix_draws {ds : List Int} {a : Int} : gIx (Wd ds a) (.str "draws") = some (.fz (.list (ds.map .int))) := rfl
theorem ix_at {ds : List Int} {a : Int} : gIx (Wd ds a) (.str "at") = some (.fz (.int a)) := rfl
theorem get_at {ds : List Int} {a : Int} : gGet (Wd ds a) (kD (.inr "at")) = some (.int a) := rfl
theorem put_at {ds : List Int} {a b : Int} : gPut (Wd ds a) (kD (.inr "at")) (.int b) = some (Wd ds b) := rfl
/-- a draw below m -/
def nx (ds : List Int) (i : Nat) (m : Int) : Int := if h : i < ds.length then ds[i] % m else 0
theorem nx_nonneg {ds : List Int} {i : Nat} {m : Int} (h : 0 < m) : 0 ≤ nx ds i m := by
  unfold nx; split
  · exact Int.emod_nonneg _ (by omega)
  · exact Int.le_refl _
theorem nx_lt {ds : List Int} {i : Nat} {m : Int} (h : 0 < m) : nx ds i m < m := by
  unfold nx; split
  · exact Int.emod_lt_of_pos _ h
  · exact h
theorem next_ok (ds : List Int) (i : Nat) (m : Int) (hm : 0 < m) : nextF [W ds i, .fz (.int m)] = .ok (.fz (.int (nx ds i m))) [W ds (i + 1 : Nat), .fz (.int m)] := by
  apply run_eq
  unfold nextB W
  simp (disch := first | omega | (simp only [List.length_map, List.length_append, List.length_cons, List.length_nil, List.length_set, List.length_range, sizeLine_eq]; done) | (simp only [List.length_map, List.length_append, List.length_cons, List.length_nil, List.length_set, List.length_range, sizeLine_eq]; omega)) only [↓wM_bd, ↓wM_pr, ↓wM_opt, ↓wM_C, ↓wM_var, ↓wM_look_fz, ↓wM_look_ow, ↓wM_look_nm, ↓wM_frz_fz, ↓wM_frz_ow, ↓wM_frz_nm, ↓wM_op2, ↓wM_op2T, ↓wO_gB, ↓wM_op1, ↓wM_nil, ↓wM_cons, ↓wM_frzA0, ↓wM_frzA, ↓wM_lookA0, ↓wM_lookA, ↓wM_tup, ↓wM_lst, ↓wM_B, ↓wM_isi, ↓wM_me, ↓wM_sl, ↓wM_noP, ↓wM_part, ↓wM_key, ↓wM_call, ↓wM_argSA0, ↓wM_argSA, ↓wM_argS_fz, ↓wM_argS_ow, ↓wM_argS_nm, ↓wM_mut, ↓wM_yes, ↓wM_rng1, ↓wM_rng2, ↓wM_wkV, ↓wM_wkT, ↓wM_wkL, ↓wM_wk2, ↓wM_wkB, ↓wM_wkC, ↓wM_not, ↓wM_tru, ↓wM_and, ↓wM_or, ↓wM_andV, ↓wM_orV, ↓wM_notV, ↓wM_ifE, ↓wM_chain, ↓wM_chainT, ↓wM_dispN, ↓wM_pairs0, ↓wM_pairs, ↓wM_new, ↓wO_gsC, ↓wS_seq, ↓wS_pass, ↓wS_brk, ↓wS_cnt, ↓wS_ret, ↓wS_drop, ↓wS_if, ↓wS_set, ↓wS_asg, ↓wS_par, ↓wS_put, ↓wS_augS, ↓wS_aug, ↓wM_run', wO_some, varK_fz, varK_ow, varK_lk, lookK_fz, lookK_ow, lookK_lk, frzK_fz, frzK_ow, frzK_lk, argK_fz, argK_owt, argK_owf, argK_lkt, argK_lkf, mutK_ow', mutO_ow, putK'_ow, getK_ow, fzO_fz, augK_fz, intD_int, retK_fz, retK_ow, retK_nm, retO_fz, retO_ow, retO_lk, setR_fz, setR_ow, setR_nm, setK_fz, setK_ow, setK_lk, tru_b, tru_n, tru_l, tru_t, key_i, key_s, gIAdd_ii, gISub_ii, gPow_18, gN_ok, gsN_ok, gT_ok, setQs_nil, setQs_fz, setQs_ow, outP_t, outP_f, outP_n, wkO_fz, wkO_ow, wkO_lk, wk_fz, wk_ow, wk_nm, items_l, items_t, unl_none, unl_some, unlK_lk, callK_R, callR_fz, callR_ow, rest_nil, rest_cons, restK_some, wipe_nil, wipe_cons, gAdd_ii, gSub_ii, gMul_l, gMul_r, gDiv_ii, gMod_ii, gNeg_i, gEq_ii, gEq_ss, gEq_bb, gNe_ii, gNe_ss, gLt_ii, gLe_ii, gGt_ii, gGe_ii, gIx_l0, gIx_t0, gIx_l1, gIx_t1, gIx_l2, gIx_t2, gIx_t3, gLen_l, gLen_t, gLen_d, gAbs_i, gAppend_l, gExtend_l, gInt_i, gTuple_l, gTuple_t, gList_l, gList_t, gMax_ii, gMin_ii, gSum_l, gIs_none, isLst, isTO, okTy, isT, isOw, List.getElem?_cons_zero, List.getElem?_cons_succ, List.length_cons, List.length_nil, List.cons_append, List.nil_append, List.replicate, List.set_cons_zero, List.set_cons_succ, true_and, and_true, if_true, List.map_cons, List.map_nil, Nat.reduceAdd, Nat.reduceSub, Nat.reduceLT, Nat.reduceLeDiff, List.length_set, List.length_map, List.length_append, List.length_range, reduceIte, reduceDIte, Bool.false_eq_true, slotOf, wb, Option.getD_some, nmOk, heldR, List.all_cons, List.all_nil, List.any_cons, List.any_nil, isNm, Bool.and_true, Bool.true_and, Bool.false_and, Bool.and_false, Bool.not_false, Bool.not_true, Bool.or_false, ix_draws, ix_at, get_at, put_at, decide_eq_true_eq]
  unfold nx
  by_cases h : i < ds.length
  · have e : ((i : Int) + 1 - 1) = (i : Nat) := by omega
    have e2 : ((i + 1 : Nat) : Int) = (i : Int) + 1 := by omega
    simp (disch := first | omega | (simp only [List.length_map, List.length_append, List.length_cons, List.length_nil, List.length_set, List.length_range, sizeLine_eq]; done) | (simp only [List.length_map, List.length_append, List.length_cons, List.length_nil, List.length_set, List.length_range, sizeLine_eq]; omega)) only [↓wM_bd, ↓wM_pr, ↓wM_opt, ↓wM_C, ↓wM_var, ↓wM_look_fz, ↓wM_look_ow, ↓wM_look_nm, ↓wM_frz_fz, ↓wM_frz_ow, ↓wM_frz_nm, ↓wM_op2, ↓wM_op2T, ↓wO_gB, ↓wM_op1, ↓wM_nil, ↓wM_cons, ↓wM_frzA0, ↓wM_frzA, ↓wM_lookA0, ↓wM_lookA, ↓wM_tup, ↓wM_lst, ↓wM_B, ↓wM_isi, ↓wM_me, ↓wM_sl, ↓wM_noP, ↓wM_part, ↓wM_key, ↓wM_call, ↓wM_argSA0, ↓wM_argSA, ↓wM_argS_fz, ↓wM_argS_ow, ↓wM_argS_nm, ↓wM_mut, ↓wM_yes, ↓wM_rng1, ↓wM_rng2, ↓wM_wkV, ↓wM_wkT, ↓wM_wkL, ↓wM_wk2, ↓wM_wkB, ↓wM_wkC, ↓wM_not, ↓wM_tru, ↓wM_and, ↓wM_or, ↓wM_andV, ↓wM_orV, ↓wM_notV, ↓wM_ifE, ↓wM_chain, ↓wM_chainT, ↓wM_dispN, ↓wM_pairs0, ↓wM_pairs, ↓wM_new, ↓wO_gsC, ↓wS_seq, ↓wS_pass, ↓wS_brk, ↓wS_cnt, ↓wS_ret, ↓wS_drop, ↓wS_if, ↓wS_set, ↓wS_asg, ↓wS_par, ↓wS_put, ↓wS_augS, ↓wS_aug, ↓wM_run', wO_some, varK_fz, varK_ow, varK_lk, lookK_fz, lookK_ow, lookK_lk, frzK_fz, frzK_ow, frzK_lk, argK_fz, argK_owt, argK_owf, argK_lkt, argK_lkf, mutK_ow', mutO_ow, putK'_ow, getK_ow, fzO_fz, augK_fz, intD_int, retK_fz, retK_ow, retK_nm, retO_fz, retO_ow, retO_lk, setR_fz, setR_ow, setR_nm, setK_fz, setK_ow, setK_lk, tru_b, tru_n, tru_l, tru_t, key_i, key_s, gIAdd_ii, gISub_ii, gPow_18, gN_ok, gsN_ok, gT_ok, setQs_nil, setQs_fz, setQs_ow, outP_t, outP_f, outP_n, wkO_fz, wkO_ow, wkO_lk, wk_fz, wk_ow, wk_nm, items_l, items_t, unl_none, unl_some, unlK_lk, callK_R, callR_fz, callR_ow, rest_nil, rest_cons, restK_some, wipe_nil, wipe_cons, gAdd_ii, gSub_ii, gMul_l, gMul_r, gDiv_ii, gMod_ii, gNeg_i, gEq_ii, gEq_ss, gEq_bb, gNe_ii, gNe_ss, gLt_ii, gLe_ii, gGt_ii, gGe_ii, gIx_l0, gIx_t0, gIx_l1, gIx_t1, gIx_l2, gIx_t2, gIx_t3, gLen_l, gLen_t, gLen_d, gAbs_i, gAppend_l, gExtend_l, gInt_i, gTuple_l, gTuple_t, gList_l, gList_t, gMax_ii, gMin_ii, gSum_l, gIs_none, isLst, isTO, okTy, isT, isOw, List.getElem?_cons_zero, List.getElem?_cons_succ, List.length_cons, List.length_nil, List.cons_append, List.nil_append, List.replicate, List.set_cons_zero, List.set_cons_succ, true_and, and_true, if_true, List.map_cons, List.map_nil, Nat.reduceAdd, Nat.reduceSub, Nat.reduceLT, Nat.reduceLeDiff, List.length_set, List.length_map, List.length_append, List.length_range, reduceIte, reduceDIte, Bool.false_eq_true, slotOf, wb, Option.getD_some, nmOk, heldR, List.all_cons, List.all_nil, List.any_cons, List.any_nil, isNm, Bool.and_true, Bool.true_and, Bool.false_and, Bool.and_false, Bool.not_false, Bool.not_true, Bool.or_false, if_neg (show ¬ ((ds.length : Int) < i + 1) by omega), e, e2, gIx_lm, h]
  · have e2 : ((i + 1 : Nat) : Int) = (i : Int) + 1 := by omega
    simp (disch := first | omega | (simp only [List.length_map, List.length_append, List.length_cons, List.length_nil, List.length_set, List.length_range, sizeLine_eq]; done) | (simp only [List.length_map, List.length_append, List.length_cons, List.length_nil, List.length_set, List.length_range, sizeLine_eq]; omega)) only [↓wM_bd, ↓wM_pr, ↓wM_opt, ↓wM_C, ↓wM_var, ↓wM_look_fz, ↓wM_look_ow, ↓wM_look_nm, ↓wM_frz_fz, ↓wM_frz_ow, ↓wM_frz_nm, ↓wM_op2, ↓wM_op2T, ↓wO_gB, ↓wM_op1, ↓wM_nil, ↓wM_cons, ↓wM_frzA0, ↓wM_frzA, ↓wM_lookA0, ↓wM_lookA, ↓wM_tup, ↓wM_lst, ↓wM_B, ↓wM_isi, ↓wM_me, ↓wM_sl, ↓wM_noP, ↓wM_part, ↓wM_key, ↓wM_call, ↓wM_argSA0, ↓wM_argSA, ↓wM_argS_fz, ↓wM_argS_ow, ↓wM_argS_nm, ↓wM_mut, ↓wM_yes, ↓wM_rng1, ↓wM_rng2, ↓wM_wkV, ↓wM_wkT, ↓wM_wkL, ↓wM_wk2, ↓wM_wkB, ↓wM_wkC, ↓wM_not, ↓wM_tru, ↓wM_and, ↓wM_or, ↓wM_andV, ↓wM_orV, ↓wM_notV, ↓wM_ifE, ↓wM_chain, ↓wM_chainT, ↓wM_dispN, ↓wM_pairs0, ↓wM_pairs, ↓wM_new, ↓wO_gsC, ↓wS_seq, ↓wS_pass, ↓wS_brk, ↓wS_cnt, ↓wS_ret, ↓wS_drop, ↓wS_if, ↓wS_set, ↓wS_asg, ↓wS_par, ↓wS_put, ↓wS_augS, ↓wS_aug, ↓wM_run', wO_some, varK_fz, varK_ow, varK_lk, lookK_fz, lookK_ow, lookK_lk, frzK_fz, frzK_ow, frzK_lk, argK_fz, argK_owt, argK_owf, argK_lkt, argK_lkf, mutK_ow', mutO_ow, putK'_ow, getK_ow, fzO_fz, augK_fz, intD_int, retK_fz, retK_ow, retK_nm, retO_fz, retO_ow, retO_lk, setR_fz, setR_ow, setR_nm, setK_fz, setK_ow, setK_lk, tru_b, tru_n, tru_l, tru_t, key_i, key_s, gIAdd_ii, gISub_ii, gPow_18, gN_ok, gsN_ok, gT_ok, setQs_nil, setQs_fz, setQs_ow, outP_t, outP_f, outP_n, wkO_fz, wkO_ow, wkO_lk, wk_fz, wk_ow, wk_nm, items_l, items_t, unl_none, unl_some, unlK_lk, callK_R, callR_fz, callR_ow, rest_nil, rest_cons, restK_some, wipe_nil, wipe_cons, gAdd_ii, gSub_ii, gMul_l, gMul_r, gDiv_ii, gMod_ii, gNeg_i, gEq_ii, gEq_ss, gEq_bb, gNe_ii, gNe_ss, gLt_ii, gLe_ii, gGt_ii, gGe_ii, gIx_l0, gIx_t0, gIx_l1, gIx_t1, gIx_l2, gIx_t2, gIx_t3, gLen_l, gLen_t, gLen_d, gAbs_i, gAppend_l, gExtend_l, gInt_i, gTuple_l, gTuple_t, gList_l, gList_t, gMax_ii, gMin_ii, gSum_l, gIs_none, isLst, isTO, okTy, isT, isOw, List.getElem?_cons_zero, List.getElem?_cons_succ, List.length_cons, List.length_nil, List.cons_append, List.nil_append, List.replicate, List.set_cons_zero, List.set_cons_succ, true_and, and_true, if_true, List.map_cons, List.map_nil, Nat.reduceAdd, Nat.reduceSub, Nat.reduceLT, Nat.reduceLeDiff, List.length_set, List.length_map, List.length_append, List.length_range, reduceIte, reduceDIte, Bool.false_eq_true, slotOf, wb, Option.getD_some, nmOk, heldR, List.all_cons, List.all_nil, List.any_cons, List.any_nil, isNm, Bool.and_true, Bool.true_and, Bool.false_and, Bool.and_false, Bool.not_false, Bool.not_true, Bool.or_false, if_pos (show ((ds.length : Int) < i + 1) by omega), h, e2]
set_option maxHeartbeats 2000000
theorem draws_ok (script : List Int) (hs : script.length ≤ 63) (many : Nat) (hm : many ≤ 100000) : ∃ ds : List Int, drawsF [.fz (.list (script.map .int)), .fz (.int many)] = .ok (.ow (.list (ds.map .int))) [.fz (.list (script.map .int)), .fz (.int many)] := by
  have key : wM drawsF [.fz (.list (script.map .int)), .fz (.int many)] fun r ρ => ∃ ds : List Int, r = .ow (.list (ds.map .int)) ∧ ρ = [.fz (.list (script.map .int)), .fz (.int many)] := by
    unfold drawsF drawsB
    simp (disch := first | omega | (simp only [List.length_map, List.length_append, List.length_cons, List.length_nil, List.length_set, List.length_range, sizeLine_eq]; done) | (simp only [List.length_map, List.length_append, List.length_cons, List.length_nil, List.length_set, List.length_range, sizeLine_eq]; omega)) only [↓wM_bd, ↓wM_pr, ↓wM_opt, ↓wM_C, ↓wM_var, ↓wM_look_fz, ↓wM_look_ow, ↓wM_look_nm, ↓wM_frz_fz, ↓wM_frz_ow, ↓wM_frz_nm, ↓wM_op2, ↓wM_op2T, ↓wO_gB, ↓wM_op1, ↓wM_nil, ↓wM_cons, ↓wM_frzA0, ↓wM_frzA, ↓wM_lookA0, ↓wM_lookA, ↓wM_tup, ↓wM_lst, ↓wM_B, ↓wM_isi, ↓wM_me, ↓wM_sl, ↓wM_noP, ↓wM_part, ↓wM_key, ↓wM_call, ↓wM_argSA0, ↓wM_argSA, ↓wM_argS_fz, ↓wM_argS_ow, ↓wM_argS_nm, ↓wM_mut, ↓wM_yes, ↓wM_rng1, ↓wM_rng2, ↓wM_wkV, ↓wM_wkT, ↓wM_wkL, ↓wM_wk2, ↓wM_wkB, ↓wM_wkC, ↓wM_not, ↓wM_tru, ↓wM_and, ↓wM_or, ↓wM_andV, ↓wM_orV, ↓wM_notV, ↓wM_ifE, ↓wM_chain, ↓wM_chainT, ↓wM_dispN, ↓wM_pairs0, ↓wM_pairs, ↓wM_new, ↓wO_gsC, ↓wS_seq, ↓wS_pass, ↓wS_brk, ↓wS_cnt, ↓wS_ret, ↓wS_drop, ↓wS_if, ↓wS_set, ↓wS_asg, ↓wS_par, ↓wS_put, ↓wS_augS, ↓wS_aug, ↓wM_run', wO_some, varK_fz, varK_ow, varK_lk, lookK_fz, lookK_ow, lookK_lk, frzK_fz, frzK_ow, frzK_lk, argK_fz, argK_owt, argK_owf, argK_lkt, argK_lkf, mutK_ow', mutO_ow, putK'_ow, getK_ow, fzO_fz, augK_fz, intD_int, retK_fz, retK_ow, retK_nm, retO_fz, retO_ow, retO_lk, setR_fz, setR_ow, setR_nm, setK_fz, setK_ow, setK_lk, tru_b, tru_n, tru_l, tru_t, key_i, key_s, gIAdd_ii, gISub_ii, gPow_18, gN_ok, gsN_ok, gT_ok, setQs_nil, setQs_fz, setQs_ow, outP_t, outP_f, outP_n, wkO_fz, wkO_ow, wkO_lk, wk_fz, wk_ow, wk_nm, items_l, items_t, unl_none, unl_some, unlK_lk, callK_R, callR_fz, callR_ow, rest_nil, rest_cons, restK_some, wipe_nil, wipe_cons, gAdd_ii, gSub_ii, gMul_l, gMul_r, gDiv_ii, gMod_ii, gNeg_i, gEq_ii, gEq_ss, gEq_bb, gNe_ii, gNe_ss, gLt_ii, gLe_ii, gGt_ii, gGe_ii, gIx_l0, gIx_t0, gIx_l1, gIx_t1, gIx_l2, gIx_t2, gIx_t3, gLen_l, gLen_t, gLen_d, gAbs_i, gAppend_l, gExtend_l, gInt_i, gTuple_l, gTuple_t, gList_l, gList_t, gMax_ii, gMin_ii, gSum_l, gIs_none, isLst, isTO, okTy, isT, isOw, List.getElem?_cons_zero, List.getElem?_cons_succ, List.length_cons, List.length_nil, List.cons_append, List.nil_append, List.replicate, List.set_cons_zero, List.set_cons_succ, true_and, and_true, if_true, List.map_cons, List.map_nil, Nat.reduceAdd, Nat.reduceSub, Nat.reduceLT, Nat.reduceLeDiff, List.length_set, List.length_map, List.length_append, List.length_range, reduceIte, reduceDIte, Bool.false_eq_true, slotOf, wb, Option.getD_some, nmOk, heldR, List.all_cons, List.all_nil, List.any_cons, List.any_nil, isNm, Bool.and_true, Bool.true_and, Bool.false_and, Bool.and_false, Bool.not_false, Bool.not_true, Bool.or_false]
    refine wS_forI (by simp (disch := first | omega | (simp only [List.length_map, List.length_append, List.length_cons, List.length_nil, List.length_set, List.length_range, sizeLine_eq]; done) | (simp only [List.length_map, List.length_append, List.length_cons, List.length_nil, List.length_set, List.length_range, sizeLine_eq]; omega)) only [↓wM_bd, ↓wM_pr, ↓wM_opt, ↓wM_C, ↓wM_var, ↓wM_look_fz, ↓wM_look_ow, ↓wM_look_nm, ↓wM_frz_fz, ↓wM_frz_ow, ↓wM_frz_nm, ↓wM_op2, ↓wM_op2T, ↓wO_gB, ↓wM_op1, ↓wM_nil, ↓wM_cons, ↓wM_frzA0, ↓wM_frzA, ↓wM_lookA0, ↓wM_lookA, ↓wM_tup, ↓wM_lst, ↓wM_B, ↓wM_isi, ↓wM_me, ↓wM_sl, ↓wM_noP, ↓wM_part, ↓wM_key, ↓wM_call, ↓wM_argSA0, ↓wM_argSA, ↓wM_argS_fz, ↓wM_argS_ow, ↓wM_argS_nm, ↓wM_mut, ↓wM_yes, ↓wM_rng1, ↓wM_rng2, ↓wM_wkV, ↓wM_wkT, ↓wM_wkL, ↓wM_wk2, ↓wM_wkB, ↓wM_wkC, ↓wM_not, ↓wM_tru, ↓wM_and, ↓wM_or, ↓wM_andV, ↓wM_orV, ↓wM_notV, ↓wM_ifE, ↓wM_chain, ↓wM_chainT, ↓wM_dispN, ↓wM_pairs0, ↓wM_pairs, ↓wM_new, ↓wO_gsC, ↓wS_seq, ↓wS_pass, ↓wS_brk, ↓wS_cnt, ↓wS_ret, ↓wS_drop, ↓wS_if, ↓wS_set, ↓wS_asg, ↓wS_par, ↓wS_put, ↓wS_augS, ↓wS_aug, ↓wM_run', wO_some, varK_fz, varK_ow, varK_lk, lookK_fz, lookK_ow, lookK_lk, frzK_fz, frzK_ow, frzK_lk, argK_fz, argK_owt, argK_owf, argK_lkt, argK_lkf, mutK_ow', mutO_ow, putK'_ow, getK_ow, fzO_fz, augK_fz, intD_int, retK_fz, retK_ow, retK_nm, retO_fz, retO_ow, retO_lk, setR_fz, setR_ow, setR_nm, setK_fz, setK_ow, setK_lk, tru_b, tru_n, tru_l, tru_t, key_i, key_s, gIAdd_ii, gISub_ii, gPow_18, gN_ok, gsN_ok, gT_ok, setQs_nil, setQs_fz, setQs_ow, outP_t, outP_f, outP_n, wkO_fz, wkO_ow, wkO_lk, wk_fz, wk_ow, wk_nm, items_l, items_t, unl_none, unl_some, unlK_lk, callK_R, callR_fz, callR_ow, rest_nil, rest_cons, restK_some, wipe_nil, wipe_cons, gAdd_ii, gSub_ii, gMul_l, gMul_r, gDiv_ii, gMod_ii, gNeg_i, gEq_ii, gEq_ss, gEq_bb, gNe_ii, gNe_ss, gLt_ii, gLe_ii, gGt_ii, gGe_ii, gIx_l0, gIx_t0, gIx_l1, gIx_t1, gIx_l2, gIx_t2, gIx_t3, gLen_l, gLen_t, gLen_d, gAbs_i, gAppend_l, gExtend_l, gInt_i, gTuple_l, gTuple_t, gList_l, gList_t, gMax_ii, gMin_ii, gSum_l, gIs_none, isLst, isTO, okTy, isT, isOw, List.getElem?_cons_zero, List.getElem?_cons_succ, List.length_cons, List.length_nil, List.cons_append, List.nil_append, List.replicate, List.set_cons_zero, List.set_cons_succ, true_and, and_true, if_true, List.map_cons, List.map_nil, Nat.reduceAdd, Nat.reduceSub, Nat.reduceLT, Nat.reduceLeDiff, List.length_set, List.length_map, List.length_append, List.length_range, reduceIte, reduceDIte, Bool.false_eq_true, slotOf, wb, Option.getD_some, nmOk, heldR, List.all_cons, List.all_nil, List.any_cons, List.any_nil, isNm, Bool.and_true, Bool.true_and, Bool.false_and, Bool.and_false, Bool.not_false, Bool.not_true, Bool.or_false, rng1_ok, rng2_ok] <;> (first | exact ⟨rfl, rfl⟩ | exact rfl)) (fun j ρ => ∃ (ds : List Int) (mixed : Int) (s4 s5 s6 s7 : Sl), ρ = [.fz (.list (script.map .int)), .fz (.int many), .ow (.list (ds.map .int)), .fz (.int mixed), s4, s5, s6, s7] ∧ ds.length ≤ j * 62) ⟨[], 7, _, _, _, _, rfl, by simp⟩ ?_ ?_
    · intro k d ρ hd ⟨ds, mixed, s4, s5, s6, s7, e, hl⟩
      subst e
      obtain ⟨hk, rfl⟩ := at_rng hd
      rw [Int.toNat_natCast] at hk
      simp (disch := first | omega | (simp only [List.length_map, List.length_append, List.length_cons, List.length_nil, List.length_set, List.length_range, sizeLine_eq]; done) | (simp only [List.length_map, List.length_append, List.length_cons, List.length_nil, List.length_set, List.length_range, sizeLine_eq]; omega)) only [↓wM_bd, ↓wM_pr, ↓wM_opt, ↓wM_C, ↓wM_var, ↓wM_look_fz, ↓wM_look_ow, ↓wM_look_nm, ↓wM_frz_fz, ↓wM_frz_ow, ↓wM_frz_nm, ↓wM_op2, ↓wM_op2T, ↓wO_gB, ↓wM_op1, ↓wM_nil, ↓wM_cons, ↓wM_frzA0, ↓wM_frzA, ↓wM_lookA0, ↓wM_lookA, ↓wM_tup, ↓wM_lst, ↓wM_B, ↓wM_isi, ↓wM_me, ↓wM_sl, ↓wM_noP, ↓wM_part, ↓wM_key, ↓wM_call, ↓wM_argSA0, ↓wM_argSA, ↓wM_argS_fz, ↓wM_argS_ow, ↓wM_argS_nm, ↓wM_mut, ↓wM_yes, ↓wM_rng1, ↓wM_rng2, ↓wM_wkV, ↓wM_wkT, ↓wM_wkL, ↓wM_wk2, ↓wM_wkB, ↓wM_wkC, ↓wM_not, ↓wM_tru, ↓wM_and, ↓wM_or, ↓wM_andV, ↓wM_orV, ↓wM_notV, ↓wM_ifE, ↓wM_chain, ↓wM_chainT, ↓wM_dispN, ↓wM_pairs0, ↓wM_pairs, ↓wM_new, ↓wO_gsC, ↓wS_seq, ↓wS_pass, ↓wS_brk, ↓wS_cnt, ↓wS_ret, ↓wS_drop, ↓wS_if, ↓wS_set, ↓wS_asg, ↓wS_par, ↓wS_put, ↓wS_augS, ↓wS_aug, ↓wM_run', wO_some, varK_fz, varK_ow, varK_lk, lookK_fz, lookK_ow, lookK_lk, frzK_fz, frzK_ow, frzK_lk, argK_fz, argK_owt, argK_owf, argK_lkt, argK_lkf, mutK_ow', mutO_ow, putK'_ow, getK_ow, fzO_fz, augK_fz, intD_int, retK_fz, retK_ow, retK_nm, retO_fz, retO_ow, retO_lk, setR_fz, setR_ow, setR_nm, setK_fz, setK_ow, setK_lk, tru_b, tru_n, tru_l, tru_t, key_i, key_s, gIAdd_ii, gISub_ii, gPow_18, gN_ok, gsN_ok, gT_ok, setQs_nil, setQs_fz, setQs_ow, outP_t, outP_f, outP_n, wkO_fz, wkO_ow, wkO_lk, wk_fz, wk_ow, wk_nm, items_l, items_t, unl_none, unl_some, unlK_lk, callK_R, callR_fz, callR_ow, rest_nil, rest_cons, restK_some, wipe_nil, wipe_cons, gAdd_ii, gSub_ii, gMul_l, gMul_r, gDiv_ii, gMod_ii, gNeg_i, gEq_ii, gEq_ss, gEq_bb, gNe_ii, gNe_ss, gLt_ii, gLe_ii, gGt_ii, gGe_ii, gIx_l0, gIx_t0, gIx_l1, gIx_t1, gIx_l2, gIx_t2, gIx_t3, gLen_l, gLen_t, gLen_d, gAbs_i, gAppend_l, gExtend_l, gInt_i, gTuple_l, gTuple_t, gList_l, gList_t, gMax_ii, gMin_ii, gSum_l, gIs_none, isLst, isTO, okTy, isT, isOw, List.getElem?_cons_zero, List.getElem?_cons_succ, List.length_cons, List.length_nil, List.cons_append, List.nil_append, List.replicate, List.set_cons_zero, List.set_cons_succ, true_and, and_true, if_true, List.map_cons, List.map_nil, Nat.reduceAdd, Nat.reduceSub, Nat.reduceLT, Nat.reduceLeDiff, List.length_set, List.length_map, List.length_append, List.length_range, reduceIte, reduceDIte, Bool.false_eq_true, slotOf, wb, Option.getD_some, nmOk, heldR, List.all_cons, List.all_nil, List.any_cons, List.any_nil, isNm, Bool.and_true, Bool.true_and, Bool.false_and, Bool.and_false, Bool.not_false, Bool.not_true, Bool.or_false, gIx_lm]
      generalize (if script[k] < 0 then -script[k] else script[k]) = cell
      have inner : ∀ (ds : List Int) (mixed : Int) (s4 s5 s7 : Sl) (rest : Int), ds.length ≤ k * 62 + 2 → wS (dFor (dRng1 (dCons (dC (.int 60)) dNil)) (gN 7)
         ((dIf (dOp2T gGt (dVar 6) (dC (.int 0)))
         ((dSeq (dDrop (dMut 2 isLst true gAppend (dCons (dOp2 gMod (dB gInt (dCons (dVar 6) dNil)) (dC (.int 997))) dNil)))
         (dSet 6 (dOp2 gDiv (dVar 6) (dC (.int 997))))))
         (dPass)))) [.fz (.list (script.map .int)), .fz (.int many), .ow (.list (ds.map .int)), .fz (.int mixed), s4, s5, .fz (.int rest), s7]
         (fun ρ => ∃ (ds : List Int) (mixed : Int) (s4 s5 s6 s7 : Sl), ρ = [.fz (.list (script.map .int)), .fz (.int many), .ow (.list (ds.map .int)), .fz (.int mixed), s4, s5, s6, s7] ∧ ds.length ≤ (k + 1) * 62) (fun _ _ => False) nope nope := by
        intro ds mixed s4 s5 s7 rest hl
        refine wS_forI (by simp (disch := first | omega | (simp only [List.length_map, List.length_append, List.length_cons, List.length_nil, List.length_set, List.length_range, sizeLine_eq]; done) | (simp only [List.length_map, List.length_append, List.length_cons, List.length_nil, List.length_set, List.length_range, sizeLine_eq]; omega)) only [↓wM_bd, ↓wM_pr, ↓wM_opt, ↓wM_C, ↓wM_var, ↓wM_look_fz, ↓wM_look_ow, ↓wM_look_nm, ↓wM_frz_fz, ↓wM_frz_ow, ↓wM_frz_nm, ↓wM_op2, ↓wM_op2T, ↓wO_gB, ↓wM_op1, ↓wM_nil, ↓wM_cons, ↓wM_frzA0, ↓wM_frzA, ↓wM_lookA0, ↓wM_lookA, ↓wM_tup, ↓wM_lst, ↓wM_B, ↓wM_isi, ↓wM_me, ↓wM_sl, ↓wM_noP, ↓wM_part, ↓wM_key, ↓wM_call, ↓wM_argSA0, ↓wM_argSA, ↓wM_argS_fz, ↓wM_argS_ow, ↓wM_argS_nm, ↓wM_mut, ↓wM_yes, ↓wM_rng1, ↓wM_rng2, ↓wM_wkV, ↓wM_wkT, ↓wM_wkL, ↓wM_wk2, ↓wM_wkB, ↓wM_wkC, ↓wM_not, ↓wM_tru, ↓wM_and, ↓wM_or, ↓wM_andV, ↓wM_orV, ↓wM_notV, ↓wM_ifE, ↓wM_chain, ↓wM_chainT, ↓wM_dispN, ↓wM_pairs0, ↓wM_pairs, ↓wM_new, ↓wO_gsC, ↓wS_seq, ↓wS_pass, ↓wS_brk, ↓wS_cnt, ↓wS_ret, ↓wS_drop, ↓wS_if, ↓wS_set, ↓wS_asg, ↓wS_par, ↓wS_put, ↓wS_augS, ↓wS_aug, ↓wM_run', wO_some, varK_fz, varK_ow, varK_lk, lookK_fz, lookK_ow, lookK_lk, frzK_fz, frzK_ow, frzK_lk, argK_fz, argK_owt, argK_owf, argK_lkt, argK_lkf, mutK_ow', mutO_ow, putK'_ow, getK_ow, fzO_fz, augK_fz, intD_int, retK_fz, retK_ow, retK_nm, retO_fz, retO_ow, retO_lk, setR_fz, setR_ow, setR_nm, setK_fz, setK_ow, setK_lk, tru_b, tru_n, tru_l, tru_t, key_i, key_s, gIAdd_ii, gISub_ii, gPow_18, gN_ok, gsN_ok, gT_ok, setQs_nil, setQs_fz, setQs_ow, outP_t, outP_f, outP_n, wkO_fz, wkO_ow, wkO_lk, wk_fz, wk_ow, wk_nm, items_l, items_t, unl_none, unl_some, unlK_lk, callK_R, callR_fz, callR_ow, rest_nil, rest_cons, restK_some, wipe_nil, wipe_cons, gAdd_ii, gSub_ii, gMul_l, gMul_r, gDiv_ii, gMod_ii, gNeg_i, gEq_ii, gEq_ss, gEq_bb, gNe_ii, gNe_ss, gLt_ii, gLe_ii, gGt_ii, gGe_ii, gIx_l0, gIx_t0, gIx_l1, gIx_t1, gIx_l2, gIx_t2, gIx_t3, gLen_l, gLen_t, gLen_d, gAbs_i, gAppend_l, gExtend_l, gInt_i, gTuple_l, gTuple_t, gList_l, gList_t, gMax_ii, gMin_ii, gSum_l, gIs_none, isLst, isTO, okTy, isT, isOw, List.getElem?_cons_zero, List.getElem?_cons_succ, List.length_cons, List.length_nil, List.cons_append, List.nil_append, List.replicate, List.set_cons_zero, List.set_cons_succ, true_and, and_true, if_true, List.map_cons, List.map_nil, Nat.reduceAdd, Nat.reduceSub, Nat.reduceLT, Nat.reduceLeDiff, List.length_set, List.length_map, List.length_append, List.length_range, reduceIte, reduceDIte, Bool.false_eq_true, slotOf, wb, Option.getD_some, nmOk, heldR, List.all_cons, List.all_nil, List.any_cons, List.any_nil, isNm, Bool.and_true, Bool.true_and, Bool.false_and, Bool.and_false, Bool.not_false, Bool.not_true, Bool.or_false, rng1_ok, rng2_ok] <;> (first | exact ⟨rfl, rfl⟩ | exact rfl)) (fun j ρ => ∃ (ds : List Int) (rest : Int) (s7 : Sl), ρ = [.fz (.list (script.map .int)), .fz (.int many), .ow (.list (ds.map .int)), .fz (.int mixed), s4, s5, .fz (.int rest), s7] ∧ ds.length ≤ k * 62 + 2 + j) ⟨ds, rest, s7, rfl, hl⟩ ?_ ?_
        · intro j d ρ hd ⟨ds, rest, s7, e, hl⟩
          subst e
          obtain ⟨hj, rfl⟩ := at_rng hd
          have hj : j < 60 := by simpa using hj
          simp (disch := first | omega | (simp only [List.length_map, List.length_append, List.length_cons, List.length_nil, List.length_set, List.length_range, sizeLine_eq]; done) | (simp only [List.length_map, List.length_append, List.length_cons, List.length_nil, List.length_set, List.length_range, sizeLine_eq]; omega)) only [↓wM_bd, ↓wM_pr, ↓wM_opt, ↓wM_C, ↓wM_var, ↓wM_look_fz, ↓wM_look_ow, ↓wM_look_nm, ↓wM_frz_fz, ↓wM_frz_ow, ↓wM_frz_nm, ↓wM_op2, ↓wM_op2T, ↓wO_gB, ↓wM_op1, ↓wM_nil, ↓wM_cons, ↓wM_frzA0, ↓wM_frzA, ↓wM_lookA0, ↓wM_lookA, ↓wM_tup, ↓wM_lst, ↓wM_B, ↓wM_isi, ↓wM_me, ↓wM_sl, ↓wM_noP, ↓wM_part, ↓wM_key, ↓wM_call, ↓wM_argSA0, ↓wM_argSA, ↓wM_argS_fz, ↓wM_argS_ow, ↓wM_argS_nm, ↓wM_mut, ↓wM_yes, ↓wM_rng1, ↓wM_rng2, ↓wM_wkV, ↓wM_wkT, ↓wM_wkL, ↓wM_wk2, ↓wM_wkB, ↓wM_wkC, ↓wM_not, ↓wM_tru, ↓wM_and, ↓wM_or, ↓wM_andV, ↓wM_orV, ↓wM_notV, ↓wM_ifE, ↓wM_chain, ↓wM_chainT, ↓wM_dispN, ↓wM_pairs0, ↓wM_pairs, ↓wM_new, ↓wO_gsC, ↓wS_seq, ↓wS_pass, ↓wS_brk, ↓wS_cnt, ↓wS_ret, ↓wS_drop, ↓wS_if, ↓wS_set, ↓wS_asg, ↓wS_par, ↓wS_put, ↓wS_augS, ↓wS_aug, ↓wM_run', wO_some, varK_fz, varK_ow, varK_lk, lookK_fz, lookK_ow, lookK_lk, frzK_fz, frzK_ow, frzK_lk, argK_fz, argK_owt, argK_owf, argK_lkt, argK_lkf, mutK_ow', mutO_ow, putK'_ow, getK_ow, fzO_fz, augK_fz, intD_int, retK_fz, retK_ow, retK_nm, retO_fz, retO_ow, retO_lk, setR_fz, setR_ow, setR_nm, setK_fz, setK_ow, setK_lk, tru_b, tru_n, tru_l, tru_t, key_i, key_s, gIAdd_ii, gISub_ii, gPow_18, gN_ok, gsN_ok, gT_ok, setQs_nil, setQs_fz, setQs_ow, outP_t, outP_f, outP_n, wkO_fz, wkO_ow, wkO_lk, wk_fz, wk_ow, wk_nm, items_l, items_t, unl_none, unl_some, unlK_lk, callK_R, callR_fz, callR_ow, rest_nil, rest_cons, restK_some, wipe_nil, wipe_cons, gAdd_ii, gSub_ii, gMul_l, gMul_r, gDiv_ii, gMod_ii, gNeg_i, gEq_ii, gEq_ss, gEq_bb, gNe_ii, gNe_ss, gLt_ii, gLe_ii, gGt_ii, gGe_ii, gIx_l0, gIx_t0, gIx_l1, gIx_t1, gIx_l2, gIx_t2, gIx_t3, gLen_l, gLen_t, gLen_d, gAbs_i, gAppend_l, gExtend_l, gInt_i, gTuple_l, gTuple_t, gList_l, gList_t, gMax_ii, gMin_ii, gSum_l, gIs_none, isLst, isTO, okTy, isT, isOw, List.getElem?_cons_zero, List.getElem?_cons_succ, List.length_cons, List.length_nil, List.cons_append, List.nil_append, List.replicate, List.set_cons_zero, List.set_cons_succ, true_and, and_true, if_true, List.map_cons, List.map_nil, Nat.reduceAdd, Nat.reduceSub, Nat.reduceLT, Nat.reduceLeDiff, List.length_set, List.length_map, List.length_append, List.length_range, reduceIte, reduceDIte, Bool.false_eq_true, slotOf, wb, Option.getD_some, nmOk, heldR, List.all_cons, List.all_nil, List.any_cons, List.any_nil, isNm, Bool.and_true, Bool.true_and, Bool.false_and, Bool.and_false, Bool.not_false, Bool.not_true, Bool.or_false, gIx_lm]
          split
          · exact ⟨ds ++ [rest % 997], _, _, by rw [List.map_append]; rfl, by simp; omega⟩
          · exact ⟨ds, _, _, rfl, by omega⟩
        · intro ρ ⟨ds, rest, s7, e, hl⟩
          simp at hl
          exact ⟨ds, _, _, _, _, _, e, by omega⟩
      split
      · exact wS_mono (inner ds _ _ _ _ _ (by omega)) (fun _ h => h) (fun _ _ h => h.elim) (fun _ h => h.elim) (fun _ h => h.elim)
      · have := inner (ds ++ [cell % 997, ((mixed * 48271 + cell % 1000003 + (k : Int)) % 65537 * 69621 + 5) % 65521 % 997]) ((mixed * 48271 + cell % 1000003 + (k : Int)) % 65537) (.fz (.int k)) (.fz (.int cell)) s7 0 (by simp; omega)
        simp only [List.map_append, List.map_cons, List.map_nil] at this
        simp only [List.append_assoc, List.cons_append, List.nil_append]
        exact wS_mono this (fun _ h => h) (fun _ _ h => h.elim) (fun _ h => h.elim) (fun _ h => h.elim)
    · intro ρ ⟨ds, mixed, s4, s5, s6, s7, e, hl⟩
      subst e
      rw [unl_none]
      simp (disch := first | omega | (simp only [List.length_map, List.length_append, List.length_cons, List.length_nil, List.length_set, List.length_range, sizeLine_eq]; done) | (simp only [List.length_map, List.length_append, List.length_cons, List.length_nil, List.length_set, List.length_range, sizeLine_eq]; omega)) only [↓wM_bd, ↓wM_pr, ↓wM_opt, ↓wM_C, ↓wM_var, ↓wM_look_fz, ↓wM_look_ow, ↓wM_look_nm, ↓wM_frz_fz, ↓wM_frz_ow, ↓wM_frz_nm, ↓wM_op2, ↓wM_op2T, ↓wO_gB, ↓wM_op1, ↓wM_nil, ↓wM_cons, ↓wM_frzA0, ↓wM_frzA, ↓wM_lookA0, ↓wM_lookA, ↓wM_tup, ↓wM_lst, ↓wM_B, ↓wM_isi, ↓wM_me, ↓wM_sl, ↓wM_noP, ↓wM_part, ↓wM_key, ↓wM_call, ↓wM_argSA0, ↓wM_argSA, ↓wM_argS_fz, ↓wM_argS_ow, ↓wM_argS_nm, ↓wM_mut, ↓wM_yes, ↓wM_rng1, ↓wM_rng2, ↓wM_wkV, ↓wM_wkT, ↓wM_wkL, ↓wM_wk2, ↓wM_wkB, ↓wM_wkC, ↓wM_not, ↓wM_tru, ↓wM_and, ↓wM_or, ↓wM_andV, ↓wM_orV, ↓wM_notV, ↓wM_ifE, ↓wM_chain, ↓wM_chainT, ↓wM_dispN, ↓wM_pairs0, ↓wM_pairs, ↓wM_new, ↓wO_gsC, ↓wS_seq, ↓wS_pass, ↓wS_brk, ↓wS_cnt, ↓wS_ret, ↓wS_drop, ↓wS_if, ↓wS_set, ↓wS_asg, ↓wS_par, ↓wS_put, ↓wS_augS, ↓wS_aug, ↓wM_run', wO_some, varK_fz, varK_ow, varK_lk, lookK_fz, lookK_ow, lookK_lk, frzK_fz, frzK_ow, frzK_lk, argK_fz, argK_owt, argK_owf, argK_lkt, argK_lkf, mutK_ow', mutO_ow, putK'_ow, getK_ow, fzO_fz, augK_fz, intD_int, retK_fz, retK_ow, retK_nm, retO_fz, retO_ow, retO_lk, setR_fz, setR_ow, setR_nm, setK_fz, setK_ow, setK_lk, tru_b, tru_n, tru_l, tru_t, key_i, key_s, gIAdd_ii, gISub_ii, gPow_18, gN_ok, gsN_ok, gT_ok, setQs_nil, setQs_fz, setQs_ow, outP_t, outP_f, outP_n, wkO_fz, wkO_ow, wkO_lk, wk_fz, wk_ow, wk_nm, items_l, items_t, unl_none, unl_some, unlK_lk, callK_R, callR_fz, callR_ow, rest_nil, rest_cons, restK_some, wipe_nil, wipe_cons, gAdd_ii, gSub_ii, gMul_l, gMul_r, gDiv_ii, gMod_ii, gNeg_i, gEq_ii, gEq_ss, gEq_bb, gNe_ii, gNe_ss, gLt_ii, gLe_ii, gGt_ii, gGe_ii, gIx_l0, gIx_t0, gIx_l1, gIx_t1, gIx_l2, gIx_t2, gIx_t3, gLen_l, gLen_t, gLen_d, gAbs_i, gAppend_l, gExtend_l, gInt_i, gTuple_l, gTuple_t, gList_l, gList_t, gMax_ii, gMin_ii, gSum_l, gIs_none, isLst, isTO, okTy, isT, isOw, List.getElem?_cons_zero, List.getElem?_cons_succ, List.length_cons, List.length_nil, List.cons_append, List.nil_append, List.replicate, List.set_cons_zero, List.set_cons_succ, true_and, and_true, if_true, List.map_cons, List.map_nil, Nat.reduceAdd, Nat.reduceSub, Nat.reduceLT, Nat.reduceLeDiff, List.length_set, List.length_map, List.length_append, List.length_range, reduceIte, reduceDIte, Bool.false_eq_true, slotOf, wb, Option.getD_some, nmOk, heldR, List.all_cons, List.all_nil, List.any_cons, List.any_nil, isNm, Bool.and_true, Bool.true_and, Bool.false_and, Bool.and_false, Bool.not_false, Bool.not_true, Bool.or_false]
      refine wS_forI (by simp (disch := first | omega | (simp only [List.length_map, List.length_append, List.length_cons, List.length_nil, List.length_set, List.length_range, sizeLine_eq]; done) | (simp only [List.length_map, List.length_append, List.length_cons, List.length_nil, List.length_set, List.length_range, sizeLine_eq]; omega)) only [↓wM_bd, ↓wM_pr, ↓wM_opt, ↓wM_C, ↓wM_var, ↓wM_look_fz, ↓wM_look_ow, ↓wM_look_nm, ↓wM_frz_fz, ↓wM_frz_ow, ↓wM_frz_nm, ↓wM_op2, ↓wM_op2T, ↓wO_gB, ↓wM_op1, ↓wM_nil, ↓wM_cons, ↓wM_frzA0, ↓wM_frzA, ↓wM_lookA0, ↓wM_lookA, ↓wM_tup, ↓wM_lst, ↓wM_B, ↓wM_isi, ↓wM_me, ↓wM_sl, ↓wM_noP, ↓wM_part, ↓wM_key, ↓wM_call, ↓wM_argSA0, ↓wM_argSA, ↓wM_argS_fz, ↓wM_argS_ow, ↓wM_argS_nm, ↓wM_mut, ↓wM_yes, ↓wM_rng1, ↓wM_rng2, ↓wM_wkV, ↓wM_wkT, ↓wM_wkL, ↓wM_wk2, ↓wM_wkB, ↓wM_wkC, ↓wM_not, ↓wM_tru, ↓wM_and, ↓wM_or, ↓wM_andV, ↓wM_orV, ↓wM_notV, ↓wM_ifE, ↓wM_chain, ↓wM_chainT, ↓wM_dispN, ↓wM_pairs0, ↓wM_pairs, ↓wM_new, ↓wO_gsC, ↓wS_seq, ↓wS_pass, ↓wS_brk, ↓wS_cnt, ↓wS_ret, ↓wS_drop, ↓wS_if, ↓wS_set, ↓wS_asg, ↓wS_par, ↓wS_put, ↓wS_augS, ↓wS_aug, ↓wM_run', wO_some, varK_fz, varK_ow, varK_lk, lookK_fz, lookK_ow, lookK_lk, frzK_fz, frzK_ow, frzK_lk, argK_fz, argK_owt, argK_owf, argK_lkt, argK_lkf, mutK_ow', mutO_ow, putK'_ow, getK_ow, fzO_fz, augK_fz, intD_int, retK_fz, retK_ow, retK_nm, retO_fz, retO_ow, retO_lk, setR_fz, setR_ow, setR_nm, setK_fz, setK_ow, setK_lk, tru_b, tru_n, tru_l, tru_t, key_i, key_s, gIAdd_ii, gISub_ii, gPow_18, gN_ok, gsN_ok, gT_ok, setQs_nil, setQs_fz, setQs_ow, outP_t, outP_f, outP_n, wkO_fz, wkO_ow, wkO_lk, wk_fz, wk_ow, wk_nm, items_l, items_t, unl_none, unl_some, unlK_lk, callK_R, callR_fz, callR_ow, rest_nil, rest_cons, restK_some, wipe_nil, wipe_cons, gAdd_ii, gSub_ii, gMul_l, gMul_r, gDiv_ii, gMod_ii, gNeg_i, gEq_ii, gEq_ss, gEq_bb, gNe_ii, gNe_ss, gLt_ii, gLe_ii, gGt_ii, gGe_ii, gIx_l0, gIx_t0, gIx_l1, gIx_t1, gIx_l2, gIx_t2, gIx_t3, gLen_l, gLen_t, gLen_d, gAbs_i, gAppend_l, gExtend_l, gInt_i, gTuple_l, gTuple_t, gList_l, gList_t, gMax_ii, gMin_ii, gSum_l, gIs_none, isLst, isTO, okTy, isT, isOw, List.getElem?_cons_zero, List.getElem?_cons_succ, List.length_cons, List.length_nil, List.cons_append, List.nil_append, List.replicate, List.set_cons_zero, List.set_cons_succ, true_and, and_true, if_true, List.map_cons, List.map_nil, Nat.reduceAdd, Nat.reduceSub, Nat.reduceLT, Nat.reduceLeDiff, List.length_set, List.length_map, List.length_append, List.length_range, reduceIte, reduceDIte, Bool.false_eq_true, slotOf, wb, Option.getD_some, nmOk, heldR, List.all_cons, List.all_nil, List.any_cons, List.any_nil, isNm, Bool.and_true, Bool.true_and, Bool.false_and, Bool.and_false, Bool.not_false, Bool.not_true, Bool.or_false, rng1_ok, rng2_ok] <;> (first | exact ⟨rfl, rfl⟩ | exact rfl)) (fun j ρ => ∃ (ds : List Int) (mixed : Int) (s4 s5 s6 s7 : Sl), ρ = [.fz (.list (script.map .int)), .fz (.int many), .ow (.list (ds.map .int)), .fz (.int mixed), s4, s5, s6, s7] ∧ ds.length ≤ 4000 + j) ⟨ds, mixed, _, _, _, _, rfl, by simp at hl; omega⟩ ?_ ?_
      · intro k d ρ hd ⟨ds, mixed, s4, s5, s6, s7, e, hl⟩
        subst e
        obtain ⟨hk, rfl⟩ := at_rng hd
        rw [Int.toNat_natCast] at hk
        simp (disch := first | omega | (simp only [List.length_map, List.length_append, List.length_cons, List.length_nil, List.length_set, List.length_range, sizeLine_eq]; done) | (simp only [List.length_map, List.length_append, List.length_cons, List.length_nil, List.length_set, List.length_range, sizeLine_eq]; omega)) only [↓wM_bd, ↓wM_pr, ↓wM_opt, ↓wM_C, ↓wM_var, ↓wM_look_fz, ↓wM_look_ow, ↓wM_look_nm, ↓wM_frz_fz, ↓wM_frz_ow, ↓wM_frz_nm, ↓wM_op2, ↓wM_op2T, ↓wO_gB, ↓wM_op1, ↓wM_nil, ↓wM_cons, ↓wM_frzA0, ↓wM_frzA, ↓wM_lookA0, ↓wM_lookA, ↓wM_tup, ↓wM_lst, ↓wM_B, ↓wM_isi, ↓wM_me, ↓wM_sl, ↓wM_noP, ↓wM_part, ↓wM_key, ↓wM_call, ↓wM_argSA0, ↓wM_argSA, ↓wM_argS_fz, ↓wM_argS_ow, ↓wM_argS_nm, ↓wM_mut, ↓wM_yes, ↓wM_rng1, ↓wM_rng2, ↓wM_wkV, ↓wM_wkT, ↓wM_wkL, ↓wM_wk2, ↓wM_wkB, ↓wM_wkC, ↓wM_not, ↓wM_tru, ↓wM_and, ↓wM_or, ↓wM_andV, ↓wM_orV, ↓wM_notV, ↓wM_ifE, ↓wM_chain, ↓wM_chainT, ↓wM_dispN, ↓wM_pairs0, ↓wM_pairs, ↓wM_new, ↓wO_gsC, ↓wS_seq, ↓wS_pass, ↓wS_brk, ↓wS_cnt, ↓wS_ret, ↓wS_drop, ↓wS_if, ↓wS_set, ↓wS_asg, ↓wS_par, ↓wS_put, ↓wS_augS, ↓wS_aug, ↓wM_run', wO_some, varK_fz, varK_ow, varK_lk, lookK_fz, lookK_ow, lookK_lk, frzK_fz, frzK_ow, frzK_lk, argK_fz, argK_owt, argK_owf, argK_lkt, argK_lkf, mutK_ow', mutO_ow, putK'_ow, getK_ow, fzO_fz, augK_fz, intD_int, retK_fz, retK_ow, retK_nm, retO_fz, retO_ow, retO_lk, setR_fz, setR_ow, setR_nm, setK_fz, setK_ow, setK_lk, tru_b, tru_n, tru_l, tru_t, key_i, key_s, gIAdd_ii, gISub_ii, gPow_18, gN_ok, gsN_ok, gT_ok, setQs_nil, setQs_fz, setQs_ow, outP_t, outP_f, outP_n, wkO_fz, wkO_ow, wkO_lk, wk_fz, wk_ow, wk_nm, items_l, items_t, unl_none, unl_some, unlK_lk, callK_R, callR_fz, callR_ow, rest_nil, rest_cons, restK_some, wipe_nil, wipe_cons, gAdd_ii, gSub_ii, gMul_l, gMul_r, gDiv_ii, gMod_ii, gNeg_i, gEq_ii, gEq_ss, gEq_bb, gNe_ii, gNe_ss, gLt_ii, gLe_ii, gGt_ii, gGe_ii, gIx_l0, gIx_t0, gIx_l1, gIx_t1, gIx_l2, gIx_t2, gIx_t3, gLen_l, gLen_t, gLen_d, gAbs_i, gAppend_l, gExtend_l, gInt_i, gTuple_l, gTuple_t, gList_l, gList_t, gMax_ii, gMin_ii, gSum_l, gIs_none, isLst, isTO, okTy, isT, isOw, List.getElem?_cons_zero, List.getElem?_cons_succ, List.length_cons, List.length_nil, List.cons_append, List.nil_append, List.replicate, List.set_cons_zero, List.set_cons_succ, true_and, and_true, if_true, List.map_cons, List.map_nil, Nat.reduceAdd, Nat.reduceSub, Nat.reduceLT, Nat.reduceLeDiff, List.length_set, List.length_map, List.length_append, List.length_range, reduceIte, reduceDIte, Bool.false_eq_true, slotOf, wb, Option.getD_some, nmOk, heldR, List.all_cons, List.all_nil, List.any_cons, List.any_nil, isNm, Bool.and_true, Bool.true_and, Bool.false_and, Bool.and_false, Bool.not_false, Bool.not_true, Bool.or_false]
        exact ⟨ds ++ [(mixed * 16807 + k + 1) % 65537 % 997], (mixed * 16807 + k + 1) % 65537, _, _, _, _, by rw [List.map_append]; rfl, by simp; omega⟩
      · intro ρ ⟨ds, mixed, s4, s5, s6, s7, e, hl⟩
        subst e
        rw [unl_none]
        simp (disch := first | omega | (simp only [List.length_map, List.length_append, List.length_cons, List.length_nil, List.length_set, List.length_range, sizeLine_eq]; done) | (simp only [List.length_map, List.length_append, List.length_cons, List.length_nil, List.length_set, List.length_range, sizeLine_eq]; omega)) only [↓wM_bd, ↓wM_pr, ↓wM_opt, ↓wM_C, ↓wM_var, ↓wM_look_fz, ↓wM_look_ow, ↓wM_look_nm, ↓wM_frz_fz, ↓wM_frz_ow, ↓wM_frz_nm, ↓wM_op2, ↓wM_op2T, ↓wO_gB, ↓wM_op1, ↓wM_nil, ↓wM_cons, ↓wM_frzA0, ↓wM_frzA, ↓wM_lookA0, ↓wM_lookA, ↓wM_tup, ↓wM_lst, ↓wM_B, ↓wM_isi, ↓wM_me, ↓wM_sl, ↓wM_noP, ↓wM_part, ↓wM_key, ↓wM_call, ↓wM_argSA0, ↓wM_argSA, ↓wM_argS_fz, ↓wM_argS_ow, ↓wM_argS_nm, ↓wM_mut, ↓wM_yes, ↓wM_rng1, ↓wM_rng2, ↓wM_wkV, ↓wM_wkT, ↓wM_wkL, ↓wM_wk2, ↓wM_wkB, ↓wM_wkC, ↓wM_not, ↓wM_tru, ↓wM_and, ↓wM_or, ↓wM_andV, ↓wM_orV, ↓wM_notV, ↓wM_ifE, ↓wM_chain, ↓wM_chainT, ↓wM_dispN, ↓wM_pairs0, ↓wM_pairs, ↓wM_new, ↓wO_gsC, ↓wS_seq, ↓wS_pass, ↓wS_brk, ↓wS_cnt, ↓wS_ret, ↓wS_drop, ↓wS_if, ↓wS_set, ↓wS_asg, ↓wS_par, ↓wS_put, ↓wS_augS, ↓wS_aug, ↓wM_run', wO_some, varK_fz, varK_ow, varK_lk, lookK_fz, lookK_ow, lookK_lk, frzK_fz, frzK_ow, frzK_lk, argK_fz, argK_owt, argK_owf, argK_lkt, argK_lkf, mutK_ow', mutO_ow, putK'_ow, getK_ow, fzO_fz, augK_fz, intD_int, retK_fz, retK_ow, retK_nm, retO_fz, retO_ow, retO_lk, setR_fz, setR_ow, setR_nm, setK_fz, setK_ow, setK_lk, tru_b, tru_n, tru_l, tru_t, key_i, key_s, gIAdd_ii, gISub_ii, gPow_18, gN_ok, gsN_ok, gT_ok, setQs_nil, setQs_fz, setQs_ow, outP_t, outP_f, outP_n, wkO_fz, wkO_ow, wkO_lk, wk_fz, wk_ow, wk_nm, items_l, items_t, unl_none, unl_some, unlK_lk, callK_R, callR_fz, callR_ow, rest_nil, rest_cons, restK_some, wipe_nil, wipe_cons, gAdd_ii, gSub_ii, gMul_l, gMul_r, gDiv_ii, gMod_ii, gNeg_i, gEq_ii, gEq_ss, gEq_bb, gNe_ii, gNe_ss, gLt_ii, gLe_ii, gGt_ii, gGe_ii, gIx_l0, gIx_t0, gIx_l1, gIx_t1, gIx_l2, gIx_t2, gIx_t3, gLen_l, gLen_t, gLen_d, gAbs_i, gAppend_l, gExtend_l, gInt_i, gTuple_l, gTuple_t, gList_l, gList_t, gMax_ii, gMin_ii, gSum_l, gIs_none, isLst, isTO, okTy, isT, isOw, List.getElem?_cons_zero, List.getElem?_cons_succ, List.length_cons, List.length_nil, List.cons_append, List.nil_append, List.replicate, List.set_cons_zero, List.set_cons_succ, true_and, and_true, if_true, List.map_cons, List.map_nil, Nat.reduceAdd, Nat.reduceSub, Nat.reduceLT, Nat.reduceLeDiff, List.length_set, List.length_map, List.length_append, List.length_range, reduceIte, reduceDIte, Bool.false_eq_true, slotOf, wb, Option.getD_some, nmOk, heldR, List.all_cons, List.all_nil, List.any_cons, List.any_nil, isNm, Bool.and_true, Bool.true_and, Bool.false_and, Bool.and_false, Bool.not_false, Bool.not_true, Bool.or_false, gSl]
        refine ⟨ds.take many, ?_⟩
        unfold cutD
        simp [HT.sIx_nat, HT.sIx_none]
  obtain ⟨r, ρ', e, ds, rfl, rfl⟩ := wM_iff.mp key
  exact ⟨ds, e⟩
end DL
namespace DL
open PySem L2
def pickB (next : M Rs) : DS := dRet (dOp2 gIx (dVar 1) (dCall [true, true] next (dCons (dVar 0) (dCons (dB gLen (dCons (dVar 1) dNil)) dNil))))
def pickF : M Rs := runDef [true, true] 2 (pickB nextF)
def sameB (self : M Rs) : DS :=
 (dSeq (dIf (dTru (dIsi .tuple (dVar 1)))
 ((dSeq (dIf (dOr (dNot (dTru (dIsi .tuple (dVar 0)))) (dOp2T gNe (dB gLen (dCons (dVar 0) dNil)) (dB gLen (dCons (dVar 1) dNil))))
 ((dRet (dC (.bool false))))
 (dPass))
 (dRet (dOp2 (gB gEq) (dLc [2] (dRng1 (dCons (dB gLen (dCons (dVar 1) dNil)) dNil)) (gN 2) (dNot (dTru (dCall [true, true] self (dCons (dOp2 gIx (dVar 0) (dVar 2)) (dCons (dOp2 gIx (dVar 1) (dVar 2)) dNil))))) (dVar 2)) (dLst dNil)))))
 (dPass))
 (dSeq (dIf (dOp2T gIs (dVar 1) (dC .none))
 ((dRet (dOp2 (gB gIs) (dVar 0) (dC .none))))
 (dPass))
 (dSeq (dIf (dTru (dIsi .str (dVar 1)))
 ((dRet (dAndV (dIsi .str (dVar 0)) (dOp2 (gB gEq) (dVar 0) (dVar 1)))))
 (dPass))
 (dRet (dAndV (dIsi .int (dVar 0)) (dAndV (dOp2 (gB gEq) (dIsi .bool (dVar 0)) (dIsi .bool (dVar 1))) (dOp2 (gB gEq) (dVar 0) (dVar 1))))))))
def sameF : Nat → M Rs
  | 0 => fun _ => .bad
  | d + 1 => runDef [true, true] 3 (sameB (sameF d))
/-- data of tuples, to a depth -/
def okV : Nat → D → Prop
  | 0, _ => False
  | n + 1, .tuple ds => ds.length ≤ 100000 ∧ ∀ d ∈ ds, okV n d
  | _ + 1, .int _ => True
  | _ + 1, .str _ => True
  | _ + 1, .bool _ => True
  | _ + 1, .none => True
  | _ + 1, _ => False
theorem isNone_t {ds : List D} : isNone (.tuple ds) = false := rfl
theorem isNone_i {i : Int} : isNone (.int i) = false := rfl
theorem isNone_s {i : Str} : isNone (.str i) = false := rfl
theorem isNone_b {i : Bool} : isNone (.bool i) = false := rfl
theorem isNone_n : isNone .none = true := rfl
theorem filter_no {α β : Type} {xs : List α} {f : α → β} : (xs.filter (fun _ => false)).map f = [] := by simp
theorem gEq_nil : gEq (.list []) (.list []) = some true := by rfl
theorem same_ok : ∀ (n : Nat) (d : D), okV n d → sameF n [.fz d, .fz d] = .ok (.fz (.bool true)) [.fz d, .fz d]
  | 0, _, h => h.elim
  | n + 1, .int i, _ => by
    unfold sameF
    apply run_eq
    unfold sameB
    simp (disch := first | omega | (simp only [List.length_map, List.length_append, List.length_cons, List.length_nil, List.length_set, List.length_range, sizeLine_eq]; done) | (simp only [List.length_map, List.length_append, List.length_cons, List.length_nil, List.length_set, List.length_range, sizeLine_eq]; omega)) only [↓wM_bd, ↓wM_pr, ↓wM_opt, ↓wM_C, ↓wM_var, ↓wM_look_fz, ↓wM_look_ow, ↓wM_look_nm, ↓wM_frz_fz, ↓wM_frz_ow, ↓wM_frz_nm, ↓wM_op2, ↓wM_op2T, ↓wO_gB, ↓wM_op1, ↓wM_nil, ↓wM_cons, ↓wM_frzA0, ↓wM_frzA, ↓wM_lookA0, ↓wM_lookA, ↓wM_tup, ↓wM_lst, ↓wM_B, ↓wM_isi, ↓wM_me, ↓wM_sl, ↓wM_noP, ↓wM_part, ↓wM_key, ↓wM_call, ↓wM_argSA0, ↓wM_argSA, ↓wM_argS_fz, ↓wM_argS_ow, ↓wM_argS_nm, ↓wM_mut, ↓wM_yes, ↓wM_rng1, ↓wM_rng2, ↓wM_wkV, ↓wM_wkT, ↓wM_wkL, ↓wM_wk2, ↓wM_wkB, ↓wM_wkC, ↓wM_not, ↓wM_tru, ↓wM_and, ↓wM_or, ↓wM_andV, ↓wM_orV, ↓wM_notV, ↓wM_ifE, ↓wM_chain, ↓wM_chainT, ↓wM_dispN, ↓wM_pairs0, ↓wM_pairs, ↓wM_new, ↓wO_gsC, ↓wS_seq, ↓wS_pass, ↓wS_brk, ↓wS_cnt, ↓wS_ret, ↓wS_drop, ↓wS_if, ↓wS_set, ↓wS_asg, ↓wS_par, ↓wS_put, ↓wS_augS, ↓wS_aug, ↓wM_run', wO_some, varK_fz, varK_ow, varK_lk, lookK_fz, lookK_ow, lookK_lk, frzK_fz, frzK_ow, frzK_lk, argK_fz, argK_owt, argK_owf, argK_lkt, argK_lkf, mutK_ow', mutO_ow, putK'_ow, getK_ow, fzO_fz, augK_fz, intD_int, retK_fz, retK_ow, retK_nm, retO_fz, retO_ow, retO_lk, setR_fz, setR_ow, setR_nm, setK_fz, setK_ow, setK_lk, tru_b, tru_n, tru_l, tru_t, key_i, key_s, gIAdd_ii, gISub_ii, gPow_18, gN_ok, gsN_ok, gT_ok, setQs_nil, setQs_fz, setQs_ow, outP_t, outP_f, outP_n, wkO_fz, wkO_ow, wkO_lk, wk_fz, wk_ow, wk_nm, items_l, items_t, unl_none, unl_some, unlK_lk, callK_R, callR_fz, callR_ow, rest_nil, rest_cons, restK_some, wipe_nil, wipe_cons, gAdd_ii, gSub_ii, gMul_l, gMul_r, gDiv_ii, gMod_ii, gNeg_i, gEq_ii, gEq_ss, gEq_bb, gNe_ii, gNe_ss, gLt_ii, gLe_ii, gGt_ii, gGe_ii, gIx_l0, gIx_t0, gIx_l1, gIx_t1, gIx_l2, gIx_t2, gIx_t3, gLen_l, gLen_t, gLen_d, gAbs_i, gAppend_l, gExtend_l, gInt_i, gTuple_l, gTuple_t, gList_l, gList_t, gMax_ii, gMin_ii, gSum_l, gIs_none, isLst, isTO, okTy, isT, isOw, List.getElem?_cons_zero, List.getElem?_cons_succ, List.length_cons, List.length_nil, List.cons_append, List.nil_append, List.replicate, List.set_cons_zero, List.set_cons_succ, true_and, and_true, if_true, List.map_cons, List.map_nil, Nat.reduceAdd, Nat.reduceSub, Nat.reduceLT, Nat.reduceLeDiff, List.length_set, List.length_map, List.length_append, List.length_range, reduceIte, reduceDIte, Bool.false_eq_true, slotOf, wb, Option.getD_some, nmOk, heldR, List.all_cons, List.all_nil, List.any_cons, List.any_nil, isNm, Bool.and_true, Bool.true_and, Bool.false_and, Bool.and_false, Bool.not_false, Bool.not_true, Bool.or_false, decide_true, isNone_i]
  | n + 1, .str i, _ => by
    unfold sameF
    apply run_eq
    unfold sameB
    simp (disch := first | omega | (simp only [List.length_map, List.length_append, List.length_cons, List.length_nil, List.length_set, List.length_range, sizeLine_eq]; done) | (simp only [List.length_map, List.length_append, List.length_cons, List.length_nil, List.length_set, List.length_range, sizeLine_eq]; omega)) only [↓wM_bd, ↓wM_pr, ↓wM_opt, ↓wM_C, ↓wM_var, ↓wM_look_fz, ↓wM_look_ow, ↓wM_look_nm, ↓wM_frz_fz, ↓wM_frz_ow, ↓wM_frz_nm, ↓wM_op2, ↓wM_op2T, ↓wO_gB, ↓wM_op1, ↓wM_nil, ↓wM_cons, ↓wM_frzA0, ↓wM_frzA, ↓wM_lookA0, ↓wM_lookA, ↓wM_tup, ↓wM_lst, ↓wM_B, ↓wM_isi, ↓wM_me, ↓wM_sl, ↓wM_noP, ↓wM_part, ↓wM_key, ↓wM_call, ↓wM_argSA0, ↓wM_argSA, ↓wM_argS_fz, ↓wM_argS_ow, ↓wM_argS_nm, ↓wM_mut, ↓wM_yes, ↓wM_rng1, ↓wM_rng2, ↓wM_wkV, ↓wM_wkT, ↓wM_wkL, ↓wM_wk2, ↓wM_wkB, ↓wM_wkC, ↓wM_not, ↓wM_tru, ↓wM_and, ↓wM_or, ↓wM_andV, ↓wM_orV, ↓wM_notV, ↓wM_ifE, ↓wM_chain, ↓wM_chainT, ↓wM_dispN, ↓wM_pairs0, ↓wM_pairs, ↓wM_new, ↓wO_gsC, ↓wS_seq, ↓wS_pass, ↓wS_brk, ↓wS_cnt, ↓wS_ret, ↓wS_drop, ↓wS_if, ↓wS_set, ↓wS_asg, ↓wS_par, ↓wS_put, ↓wS_augS, ↓wS_aug, ↓wM_run', wO_some, varK_fz, varK_ow, varK_lk, lookK_fz, lookK_ow, lookK_lk, frzK_fz, frzK_ow, frzK_lk, argK_fz, argK_owt, argK_owf, argK_lkt, argK_lkf, mutK_ow', mutO_ow, putK'_ow, getK_ow, fzO_fz, augK_fz, intD_int, retK_fz, retK_ow, retK_nm, retO_fz, retO_ow, retO_lk, setR_fz, setR_ow, setR_nm, setK_fz, setK_ow, setK_lk, tru_b, tru_n, tru_l, tru_t, key_i, key_s, gIAdd_ii, gISub_ii, gPow_18, gN_ok, gsN_ok, gT_ok, setQs_nil, setQs_fz, setQs_ow, outP_t, outP_f, outP_n, wkO_fz, wkO_ow, wkO_lk, wk_fz, wk_ow, wk_nm, items_l, items_t, unl_none, unl_some, unlK_lk, callK_R, callR_fz, callR_ow, rest_nil, rest_cons, restK_some, wipe_nil, wipe_cons, gAdd_ii, gSub_ii, gMul_l, gMul_r, gDiv_ii, gMod_ii, gNeg_i, gEq_ii, gEq_ss, gEq_bb, gNe_ii, gNe_ss, gLt_ii, gLe_ii, gGt_ii, gGe_ii, gIx_l0, gIx_t0, gIx_l1, gIx_t1, gIx_l2, gIx_t2, gIx_t3, gLen_l, gLen_t, gLen_d, gAbs_i, gAppend_l, gExtend_l, gInt_i, gTuple_l, gTuple_t, gList_l, gList_t, gMax_ii, gMin_ii, gSum_l, gIs_none, isLst, isTO, okTy, isT, isOw, List.getElem?_cons_zero, List.getElem?_cons_succ, List.length_cons, List.length_nil, List.cons_append, List.nil_append, List.replicate, List.set_cons_zero, List.set_cons_succ, true_and, and_true, if_true, List.map_cons, List.map_nil, Nat.reduceAdd, Nat.reduceSub, Nat.reduceLT, Nat.reduceLeDiff, List.length_set, List.length_map, List.length_append, List.length_range, reduceIte, reduceDIte, Bool.false_eq_true, slotOf, wb, Option.getD_some, nmOk, heldR, List.all_cons, List.all_nil, List.any_cons, List.any_nil, isNm, Bool.and_true, Bool.true_and, Bool.false_and, Bool.and_false, Bool.not_false, Bool.not_true, Bool.or_false, decide_true, isNone_s]
  | n + 1, .bool i, _ => by
    unfold sameF
    apply run_eq
    unfold sameB
    simp (disch := first | omega | (simp only [List.length_map, List.length_append, List.length_cons, List.length_nil, List.length_set, List.length_range, sizeLine_eq]; done) | (simp only [List.length_map, List.length_append, List.length_cons, List.length_nil, List.length_set, List.length_range, sizeLine_eq]; omega)) only [↓wM_bd, ↓wM_pr, ↓wM_opt, ↓wM_C, ↓wM_var, ↓wM_look_fz, ↓wM_look_ow, ↓wM_look_nm, ↓wM_frz_fz, ↓wM_frz_ow, ↓wM_frz_nm, ↓wM_op2, ↓wM_op2T, ↓wO_gB, ↓wM_op1, ↓wM_nil, ↓wM_cons, ↓wM_frzA0, ↓wM_frzA, ↓wM_lookA0, ↓wM_lookA, ↓wM_tup, ↓wM_lst, ↓wM_B, ↓wM_isi, ↓wM_me, ↓wM_sl, ↓wM_noP, ↓wM_part, ↓wM_key, ↓wM_call, ↓wM_argSA0, ↓wM_argSA, ↓wM_argS_fz, ↓wM_argS_ow, ↓wM_argS_nm, ↓wM_mut, ↓wM_yes, ↓wM_rng1, ↓wM_rng2, ↓wM_wkV, ↓wM_wkT, ↓wM_wkL, ↓wM_wk2, ↓wM_wkB, ↓wM_wkC, ↓wM_not, ↓wM_tru, ↓wM_and, ↓wM_or, ↓wM_andV, ↓wM_orV, ↓wM_notV, ↓wM_ifE, ↓wM_chain, ↓wM_chainT, ↓wM_dispN, ↓wM_pairs0, ↓wM_pairs, ↓wM_new, ↓wO_gsC, ↓wS_seq, ↓wS_pass, ↓wS_brk, ↓wS_cnt, ↓wS_ret, ↓wS_drop, ↓wS_if, ↓wS_set, ↓wS_asg, ↓wS_par, ↓wS_put, ↓wS_augS, ↓wS_aug, ↓wM_run', wO_some, varK_fz, varK_ow, varK_lk, lookK_fz, lookK_ow, lookK_lk, frzK_fz, frzK_ow, frzK_lk, argK_fz, argK_owt, argK_owf, argK_lkt, argK_lkf, mutK_ow', mutO_ow, putK'_ow, getK_ow, fzO_fz, augK_fz, intD_int, retK_fz, retK_ow, retK_nm, retO_fz, retO_ow, retO_lk, setR_fz, setR_ow, setR_nm, setK_fz, setK_ow, setK_lk, tru_b, tru_n, tru_l, tru_t, key_i, key_s, gIAdd_ii, gISub_ii, gPow_18, gN_ok, gsN_ok, gT_ok, setQs_nil, setQs_fz, setQs_ow, outP_t, outP_f, outP_n, wkO_fz, wkO_ow, wkO_lk, wk_fz, wk_ow, wk_nm, items_l, items_t, unl_none, unl_some, unlK_lk, callK_R, callR_fz, callR_ow, rest_nil, rest_cons, restK_some, wipe_nil, wipe_cons, gAdd_ii, gSub_ii, gMul_l, gMul_r, gDiv_ii, gMod_ii, gNeg_i, gEq_ii, gEq_ss, gEq_bb, gNe_ii, gNe_ss, gLt_ii, gLe_ii, gGt_ii, gGe_ii, gIx_l0, gIx_t0, gIx_l1, gIx_t1, gIx_l2, gIx_t2, gIx_t3, gLen_l, gLen_t, gLen_d, gAbs_i, gAppend_l, gExtend_l, gInt_i, gTuple_l, gTuple_t, gList_l, gList_t, gMax_ii, gMin_ii, gSum_l, gIs_none, isLst, isTO, okTy, isT, isOw, List.getElem?_cons_zero, List.getElem?_cons_succ, List.length_cons, List.length_nil, List.cons_append, List.nil_append, List.replicate, List.set_cons_zero, List.set_cons_succ, true_and, and_true, if_true, List.map_cons, List.map_nil, Nat.reduceAdd, Nat.reduceSub, Nat.reduceLT, Nat.reduceLeDiff, List.length_set, List.length_map, List.length_append, List.length_range, reduceIte, reduceDIte, Bool.false_eq_true, slotOf, wb, Option.getD_some, nmOk, heldR, List.all_cons, List.all_nil, List.any_cons, List.any_nil, isNm, Bool.and_true, Bool.true_and, Bool.false_and, Bool.and_false, Bool.not_false, Bool.not_true, Bool.or_false, decide_true, isNone_b]
  | n + 1, .none, _ => by
    unfold sameF
    apply run_eq
    unfold sameB
    simp (disch := first | omega | (simp only [List.length_map, List.length_append, List.length_cons, List.length_nil, List.length_set, List.length_range, sizeLine_eq]; done) | (simp only [List.length_map, List.length_append, List.length_cons, List.length_nil, List.length_set, List.length_range, sizeLine_eq]; omega)) only [↓wM_bd, ↓wM_pr, ↓wM_opt, ↓wM_C, ↓wM_var, ↓wM_look_fz, ↓wM_look_ow, ↓wM_look_nm, ↓wM_frz_fz, ↓wM_frz_ow, ↓wM_frz_nm, ↓wM_op2, ↓wM_op2T, ↓wO_gB, ↓wM_op1, ↓wM_nil, ↓wM_cons, ↓wM_frzA0, ↓wM_frzA, ↓wM_lookA0, ↓wM_lookA, ↓wM_tup, ↓wM_lst, ↓wM_B, ↓wM_isi, ↓wM_me, ↓wM_sl, ↓wM_noP, ↓wM_part, ↓wM_key, ↓wM_call, ↓wM_argSA0, ↓wM_argSA, ↓wM_argS_fz, ↓wM_argS_ow, ↓wM_argS_nm, ↓wM_mut, ↓wM_yes, ↓wM_rng1, ↓wM_rng2, ↓wM_wkV, ↓wM_wkT, ↓wM_wkL, ↓wM_wk2, ↓wM_wkB, ↓wM_wkC, ↓wM_not, ↓wM_tru, ↓wM_and, ↓wM_or, ↓wM_andV, ↓wM_orV, ↓wM_notV, ↓wM_ifE, ↓wM_chain, ↓wM_chainT, ↓wM_dispN, ↓wM_pairs0, ↓wM_pairs, ↓wM_new, ↓wO_gsC, ↓wS_seq, ↓wS_pass, ↓wS_brk, ↓wS_cnt, ↓wS_ret, ↓wS_drop, ↓wS_if, ↓wS_set, ↓wS_asg, ↓wS_par, ↓wS_put, ↓wS_augS, ↓wS_aug, ↓wM_run', wO_some, varK_fz, varK_ow, varK_lk, lookK_fz, lookK_ow, lookK_lk, frzK_fz, frzK_ow, frzK_lk, argK_fz, argK_owt, argK_owf, argK_lkt, argK_lkf, mutK_ow', mutO_ow, putK'_ow, getK_ow, fzO_fz, augK_fz, intD_int, retK_fz, retK_ow, retK_nm, retO_fz, retO_ow, retO_lk, setR_fz, setR_ow, setR_nm, setK_fz, setK_ow, setK_lk, tru_b, tru_n, tru_l, tru_t, key_i, key_s, gIAdd_ii, gISub_ii, gPow_18, gN_ok, gsN_ok, gT_ok, setQs_nil, setQs_fz, setQs_ow, outP_t, outP_f, outP_n, wkO_fz, wkO_ow, wkO_lk, wk_fz, wk_ow, wk_nm, items_l, items_t, unl_none, unl_some, unlK_lk, callK_R, callR_fz, callR_ow, rest_nil, rest_cons, restK_some, wipe_nil, wipe_cons, gAdd_ii, gSub_ii, gMul_l, gMul_r, gDiv_ii, gMod_ii, gNeg_i, gEq_ii, gEq_ss, gEq_bb, gNe_ii, gNe_ss, gLt_ii, gLe_ii, gGt_ii, gGe_ii, gIx_l0, gIx_t0, gIx_l1, gIx_t1, gIx_l2, gIx_t2, gIx_t3, gLen_l, gLen_t, gLen_d, gAbs_i, gAppend_l, gExtend_l, gInt_i, gTuple_l, gTuple_t, gList_l, gList_t, gMax_ii, gMin_ii, gSum_l, gIs_none, isLst, isTO, okTy, isT, isOw, List.getElem?_cons_zero, List.getElem?_cons_succ, List.length_cons, List.length_nil, List.cons_append, List.nil_append, List.replicate, List.set_cons_zero, List.set_cons_succ, true_and, and_true, if_true, List.map_cons, List.map_nil, Nat.reduceAdd, Nat.reduceSub, Nat.reduceLT, Nat.reduceLeDiff, List.length_set, List.length_map, List.length_append, List.length_range, reduceIte, reduceDIte, Bool.false_eq_true, slotOf, wb, Option.getD_some, nmOk, heldR, List.all_cons, List.all_nil, List.any_cons, List.any_nil, isNm, Bool.and_true, Bool.true_and, Bool.false_and, Bool.and_false, Bool.not_false, Bool.not_true, Bool.or_false, decide_true, isNone_n]
  | n + 1, .list _, h => h.elim
  | n + 1, .dict _, h => h.elim
  | n + 1, .tuple ds, ⟨hl, hd⟩ => by
    unfold sameF
    apply run_eq
    unfold sameB
    simp (disch := first | omega | (simp only [List.length_map, List.length_append, List.length_cons, List.length_nil, List.length_set, List.length_range, sizeLine_eq]; done) | (simp only [List.length_map, List.length_append, List.length_cons, List.length_nil, List.length_set, List.length_range, sizeLine_eq]; omega)) only [↓wM_bd, ↓wM_pr, ↓wM_opt, ↓wM_C, ↓wM_var, ↓wM_look_fz, ↓wM_look_ow, ↓wM_look_nm, ↓wM_frz_fz, ↓wM_frz_ow, ↓wM_frz_nm, ↓wM_op2, ↓wM_op2T, ↓wO_gB, ↓wM_op1, ↓wM_nil, ↓wM_cons, ↓wM_frzA0, ↓wM_frzA, ↓wM_lookA0, ↓wM_lookA, ↓wM_tup, ↓wM_lst, ↓wM_B, ↓wM_isi, ↓wM_me, ↓wM_sl, ↓wM_noP, ↓wM_part, ↓wM_key, ↓wM_call, ↓wM_argSA0, ↓wM_argSA, ↓wM_argS_fz, ↓wM_argS_ow, ↓wM_argS_nm, ↓wM_mut, ↓wM_yes, ↓wM_rng1, ↓wM_rng2, ↓wM_wkV, ↓wM_wkT, ↓wM_wkL, ↓wM_wk2, ↓wM_wkB, ↓wM_wkC, ↓wM_not, ↓wM_tru, ↓wM_and, ↓wM_or, ↓wM_andV, ↓wM_orV, ↓wM_notV, ↓wM_ifE, ↓wM_chain, ↓wM_chainT, ↓wM_dispN, ↓wM_pairs0, ↓wM_pairs, ↓wM_new, ↓wO_gsC, ↓wS_seq, ↓wS_pass, ↓wS_brk, ↓wS_cnt, ↓wS_ret, ↓wS_drop, ↓wS_if, ↓wS_set, ↓wS_asg, ↓wS_par, ↓wS_put, ↓wS_augS, ↓wS_aug, ↓wM_run', wO_some, varK_fz, varK_ow, varK_lk, lookK_fz, lookK_ow, lookK_lk, frzK_fz, frzK_ow, frzK_lk, argK_fz, argK_owt, argK_owf, argK_lkt, argK_lkf, mutK_ow', mutO_ow, putK'_ow, getK_ow, fzO_fz, augK_fz, intD_int, retK_fz, retK_ow, retK_nm, retO_fz, retO_ow, retO_lk, setR_fz, setR_ow, setR_nm, setK_fz, setK_ow, setK_lk, tru_b, tru_n, tru_l, tru_t, key_i, key_s, gIAdd_ii, gISub_ii, gPow_18, gN_ok, gsN_ok, gT_ok, setQs_nil, setQs_fz, setQs_ow, outP_t, outP_f, outP_n, wkO_fz, wkO_ow, wkO_lk, wk_fz, wk_ow, wk_nm, items_l, items_t, unl_none, unl_some, unlK_lk, callK_R, callR_fz, callR_ow, rest_nil, rest_cons, restK_some, wipe_nil, wipe_cons, gAdd_ii, gSub_ii, gMul_l, gMul_r, gDiv_ii, gMod_ii, gNeg_i, gEq_ii, gEq_ss, gEq_bb, gNe_ii, gNe_ss, gLt_ii, gLe_ii, gGt_ii, gGe_ii, gIx_l0, gIx_t0, gIx_l1, gIx_t1, gIx_l2, gIx_t2, gIx_t3, gLen_l, gLen_t, gLen_d, gAbs_i, gAppend_l, gExtend_l, gInt_i, gTuple_l, gTuple_t, gList_l, gList_t, gMax_ii, gMin_ii, gSum_l, gIs_none, isLst, isTO, okTy, isT, isOw, List.getElem?_cons_zero, List.getElem?_cons_succ, List.length_cons, List.length_nil, List.cons_append, List.nil_append, List.replicate, List.set_cons_zero, List.set_cons_succ, true_and, and_true, if_true, List.map_cons, List.map_nil, Nat.reduceAdd, Nat.reduceSub, Nat.reduceLT, Nat.reduceLeDiff, List.length_set, List.length_map, List.length_append, List.length_range, reduceIte, reduceDIte, Bool.false_eq_true, slotOf, wb, Option.getD_some, nmOk, heldR, List.all_cons, List.all_nil, List.any_cons, List.any_nil, isNm, Bool.and_true, Bool.true_and, Bool.false_and, Bool.and_false, Bool.not_false, Bool.not_true, Bool.or_false, decide_true, isNone_t]
    refine wM_lcM (by simp (disch := first | omega | (simp only [List.length_map, List.length_append, List.length_cons, List.length_nil, List.length_set, List.length_range, sizeLine_eq]; done) | (simp only [List.length_map, List.length_append, List.length_cons, List.length_nil, List.length_set, List.length_range, sizeLine_eq]; omega)) only [↓wM_bd, ↓wM_pr, ↓wM_opt, ↓wM_C, ↓wM_var, ↓wM_look_fz, ↓wM_look_ow, ↓wM_look_nm, ↓wM_frz_fz, ↓wM_frz_ow, ↓wM_frz_nm, ↓wM_op2, ↓wM_op2T, ↓wO_gB, ↓wM_op1, ↓wM_nil, ↓wM_cons, ↓wM_frzA0, ↓wM_frzA, ↓wM_lookA0, ↓wM_lookA, ↓wM_tup, ↓wM_lst, ↓wM_B, ↓wM_isi, ↓wM_me, ↓wM_sl, ↓wM_noP, ↓wM_part, ↓wM_key, ↓wM_call, ↓wM_argSA0, ↓wM_argSA, ↓wM_argS_fz, ↓wM_argS_ow, ↓wM_argS_nm, ↓wM_mut, ↓wM_yes, ↓wM_rng1, ↓wM_rng2, ↓wM_wkV, ↓wM_wkT, ↓wM_wkL, ↓wM_wk2, ↓wM_wkB, ↓wM_wkC, ↓wM_not, ↓wM_tru, ↓wM_and, ↓wM_or, ↓wM_andV, ↓wM_orV, ↓wM_notV, ↓wM_ifE, ↓wM_chain, ↓wM_chainT, ↓wM_dispN, ↓wM_pairs0, ↓wM_pairs, ↓wM_new, ↓wO_gsC, ↓wS_seq, ↓wS_pass, ↓wS_brk, ↓wS_cnt, ↓wS_ret, ↓wS_drop, ↓wS_if, ↓wS_set, ↓wS_asg, ↓wS_par, ↓wS_put, ↓wS_augS, ↓wS_aug, ↓wM_run', wO_some, varK_fz, varK_ow, varK_lk, lookK_fz, lookK_ow, lookK_lk, frzK_fz, frzK_ow, frzK_lk, argK_fz, argK_owt, argK_owf, argK_lkt, argK_lkf, mutK_ow', mutO_ow, putK'_ow, getK_ow, fzO_fz, augK_fz, intD_int, retK_fz, retK_ow, retK_nm, retO_fz, retO_ow, retO_lk, setR_fz, setR_ow, setR_nm, setK_fz, setK_ow, setK_lk, tru_b, tru_n, tru_l, tru_t, key_i, key_s, gIAdd_ii, gISub_ii, gPow_18, gN_ok, gsN_ok, gT_ok, setQs_nil, setQs_fz, setQs_ow, outP_t, outP_f, outP_n, wkO_fz, wkO_ow, wkO_lk, wk_fz, wk_ow, wk_nm, items_l, items_t, unl_none, unl_some, unlK_lk, callK_R, callR_fz, callR_ow, rest_nil, rest_cons, restK_some, wipe_nil, wipe_cons, gAdd_ii, gSub_ii, gMul_l, gMul_r, gDiv_ii, gMod_ii, gNeg_i, gEq_ii, gEq_ss, gEq_bb, gNe_ii, gNe_ss, gLt_ii, gLe_ii, gGt_ii, gGe_ii, gIx_l0, gIx_t0, gIx_l1, gIx_t1, gIx_l2, gIx_t2, gIx_t3, gLen_l, gLen_t, gLen_d, gAbs_i, gAppend_l, gExtend_l, gInt_i, gTuple_l, gTuple_t, gList_l, gList_t, gMax_ii, gMin_ii, gSum_l, gIs_none, isLst, isTO, okTy, isT, isOw, List.getElem?_cons_zero, List.getElem?_cons_succ, List.length_cons, List.length_nil, List.cons_append, List.nil_append, List.replicate, List.set_cons_zero, List.set_cons_succ, true_and, and_true, if_true, List.map_cons, List.map_nil, Nat.reduceAdd, Nat.reduceSub, Nat.reduceLT, Nat.reduceLeDiff, List.length_set, List.length_map, List.length_append, List.length_range, reduceIte, reduceDIte, Bool.false_eq_true, slotOf, wb, Option.getD_some, nmOk, heldR, List.all_cons, List.all_nil, List.any_cons, List.any_nil, isNm, Bool.and_true, Bool.true_and, Bool.false_and, Bool.and_false, Bool.not_false, Bool.not_true, Bool.or_false, rng1_ok, rng2_ok] <;> (first | exact ⟨rfl, rfl⟩ | exact rfl)) (fun _ => false) (fun _ => .none) (by rw [List.length_range]; simp only [Int.toNat_natCast, sizeLine_eq]; omega) (fun k hk => ?_) ?_
    · rw [List.mem_range, Int.toNat_natCast] at hk
      have e : gIx (.tuple ds) (.int (k : Int)) = some (.fz ds[k]) := gIx_t (by omega) (by rw [Int.toNat_natCast, List.getElem?_eq_getElem hk])
      simp (disch := first | omega | (simp only [List.length_map, List.length_append, List.length_cons, List.length_nil, List.length_set, List.length_range, sizeLine_eq]; done) | (simp only [List.length_map, List.length_append, List.length_cons, List.length_nil, List.length_set, List.length_range, sizeLine_eq]; omega)) only [↓wM_bd, ↓wM_pr, ↓wM_opt, ↓wM_C, ↓wM_var, ↓wM_look_fz, ↓wM_look_ow, ↓wM_look_nm, ↓wM_frz_fz, ↓wM_frz_ow, ↓wM_frz_nm, ↓wM_op2, ↓wM_op2T, ↓wO_gB, ↓wM_op1, ↓wM_nil, ↓wM_cons, ↓wM_frzA0, ↓wM_frzA, ↓wM_lookA0, ↓wM_lookA, ↓wM_tup, ↓wM_lst, ↓wM_B, ↓wM_isi, ↓wM_me, ↓wM_sl, ↓wM_noP, ↓wM_part, ↓wM_key, ↓wM_call, ↓wM_argSA0, ↓wM_argSA, ↓wM_argS_fz, ↓wM_argS_ow, ↓wM_argS_nm, ↓wM_mut, ↓wM_yes, ↓wM_rng1, ↓wM_rng2, ↓wM_wkV, ↓wM_wkT, ↓wM_wkL, ↓wM_wk2, ↓wM_wkB, ↓wM_wkC, ↓wM_not, ↓wM_tru, ↓wM_and, ↓wM_or, ↓wM_andV, ↓wM_orV, ↓wM_notV, ↓wM_ifE, ↓wM_chain, ↓wM_chainT, ↓wM_dispN, ↓wM_pairs0, ↓wM_pairs, ↓wM_new, ↓wO_gsC, ↓wS_seq, ↓wS_pass, ↓wS_brk, ↓wS_cnt, ↓wS_ret, ↓wS_drop, ↓wS_if, ↓wS_set, ↓wS_asg, ↓wS_par, ↓wS_put, ↓wS_augS, ↓wS_aug, ↓wM_run', wO_some, varK_fz, varK_ow, varK_lk, lookK_fz, lookK_ow, lookK_lk, frzK_fz, frzK_ow, frzK_lk, argK_fz, argK_owt, argK_owf, argK_lkt, argK_lkf, mutK_ow', mutO_ow, putK'_ow, getK_ow, fzO_fz, augK_fz, intD_int, retK_fz, retK_ow, retK_nm, retO_fz, retO_ow, retO_lk, setR_fz, setR_ow, setR_nm, setK_fz, setK_ow, setK_lk, tru_b, tru_n, tru_l, tru_t, key_i, key_s, gIAdd_ii, gISub_ii, gPow_18, gN_ok, gsN_ok, gT_ok, setQs_nil, setQs_fz, setQs_ow, outP_t, outP_f, outP_n, wkO_fz, wkO_ow, wkO_lk, wk_fz, wk_ow, wk_nm, items_l, items_t, unl_none, unl_some, unlK_lk, callK_R, callR_fz, callR_ow, rest_nil, rest_cons, restK_some, wipe_nil, wipe_cons, gAdd_ii, gSub_ii, gMul_l, gMul_r, gDiv_ii, gMod_ii, gNeg_i, gEq_ii, gEq_ss, gEq_bb, gNe_ii, gNe_ss, gLt_ii, gLe_ii, gGt_ii, gGe_ii, gIx_l0, gIx_t0, gIx_l1, gIx_t1, gIx_l2, gIx_t2, gIx_t3, gLen_l, gLen_t, gLen_d, gAbs_i, gAppend_l, gExtend_l, gInt_i, gTuple_l, gTuple_t, gList_l, gList_t, gMax_ii, gMin_ii, gSum_l, gIs_none, isLst, isTO, okTy, isT, isOw, List.getElem?_cons_zero, List.getElem?_cons_succ, List.length_cons, List.length_nil, List.cons_append, List.nil_append, List.replicate, List.set_cons_zero, List.set_cons_succ, true_and, and_true, if_true, List.map_cons, List.map_nil, Nat.reduceAdd, Nat.reduceSub, Nat.reduceLT, Nat.reduceLeDiff, List.length_set, List.length_map, List.length_append, List.length_range, reduceIte, reduceDIte, Bool.false_eq_true, slotOf, wb, Option.getD_some, nmOk, heldR, List.all_cons, List.all_nil, List.any_cons, List.any_nil, isNm, Bool.and_true, Bool.true_and, Bool.false_and, Bool.and_false, Bool.not_false, Bool.not_true, Bool.or_false, e, same_ok n ds[k] (hd _ (List.getElem_mem hk))]
    · simp (disch := first | omega | (simp only [List.length_map, List.length_append, List.length_cons, List.length_nil, List.length_set, List.length_range, sizeLine_eq]; done) | (simp only [List.length_map, List.length_append, List.length_cons, List.length_nil, List.length_set, List.length_range, sizeLine_eq]; omega)) only [↓wM_bd, ↓wM_pr, ↓wM_opt, ↓wM_C, ↓wM_var, ↓wM_look_fz, ↓wM_look_ow, ↓wM_look_nm, ↓wM_frz_fz, ↓wM_frz_ow, ↓wM_frz_nm, ↓wM_op2, ↓wM_op2T, ↓wO_gB, ↓wM_op1, ↓wM_nil, ↓wM_cons, ↓wM_frzA0, ↓wM_frzA, ↓wM_lookA0, ↓wM_lookA, ↓wM_tup, ↓wM_lst, ↓wM_B, ↓wM_isi, ↓wM_me, ↓wM_sl, ↓wM_noP, ↓wM_part, ↓wM_key, ↓wM_call, ↓wM_argSA0, ↓wM_argSA, ↓wM_argS_fz, ↓wM_argS_ow, ↓wM_argS_nm, ↓wM_mut, ↓wM_yes, ↓wM_rng1, ↓wM_rng2, ↓wM_wkV, ↓wM_wkT, ↓wM_wkL, ↓wM_wk2, ↓wM_wkB, ↓wM_wkC, ↓wM_not, ↓wM_tru, ↓wM_and, ↓wM_or, ↓wM_andV, ↓wM_orV, ↓wM_notV, ↓wM_ifE, ↓wM_chain, ↓wM_chainT, ↓wM_dispN, ↓wM_pairs0, ↓wM_pairs, ↓wM_new, ↓wO_gsC, ↓wS_seq, ↓wS_pass, ↓wS_brk, ↓wS_cnt, ↓wS_ret, ↓wS_drop, ↓wS_if, ↓wS_set, ↓wS_asg, ↓wS_par, ↓wS_put, ↓wS_augS, ↓wS_aug, ↓wM_run', wO_some, varK_fz, varK_ow, varK_lk, lookK_fz, lookK_ow, lookK_lk, frzK_fz, frzK_ow, frzK_lk, argK_fz, argK_owt, argK_owf, argK_lkt, argK_lkf, mutK_ow', mutO_ow, putK'_ow, getK_ow, fzO_fz, augK_fz, intD_int, retK_fz, retK_ow, retK_nm, retO_fz, retO_ow, retO_lk, setR_fz, setR_ow, setR_nm, setK_fz, setK_ow, setK_lk, tru_b, tru_n, tru_l, tru_t, key_i, key_s, gIAdd_ii, gISub_ii, gPow_18, gN_ok, gsN_ok, gT_ok, setQs_nil, setQs_fz, setQs_ow, outP_t, outP_f, outP_n, wkO_fz, wkO_ow, wkO_lk, wk_fz, wk_ow, wk_nm, items_l, items_t, unl_none, unl_some, unlK_lk, callK_R, callR_fz, callR_ow, rest_nil, rest_cons, restK_some, wipe_nil, wipe_cons, gAdd_ii, gSub_ii, gMul_l, gMul_r, gDiv_ii, gMod_ii, gNeg_i, gEq_ii, gEq_ss, gEq_bb, gNe_ii, gNe_ss, gLt_ii, gLe_ii, gGt_ii, gGe_ii, gIx_l0, gIx_t0, gIx_l1, gIx_t1, gIx_l2, gIx_t2, gIx_t3, gLen_l, gLen_t, gLen_d, gAbs_i, gAppend_l, gExtend_l, gInt_i, gTuple_l, gTuple_t, gList_l, gList_t, gMax_ii, gMin_ii, gSum_l, gIs_none, isLst, isTO, okTy, isT, isOw, List.getElem?_cons_zero, List.getElem?_cons_succ, List.length_cons, List.length_nil, List.cons_append, List.nil_append, List.replicate, List.set_cons_zero, List.set_cons_succ, true_and, and_true, if_true, List.map_cons, List.map_nil, Nat.reduceAdd, Nat.reduceSub, Nat.reduceLT, Nat.reduceLeDiff, List.length_set, List.length_map, List.length_append, List.length_range, reduceIte, reduceDIte, Bool.false_eq_true, slotOf, wb, Option.getD_some, nmOk, heldR, List.all_cons, List.all_nil, List.any_cons, List.any_nil, isNm, Bool.and_true, Bool.true_and, Bool.false_and, Bool.and_false, Bool.not_false, Bool.not_true, Bool.or_false, filter_no, gEq_nil]
end DL
namespace DL
open PySem L2
theorem dataLe_D (x y : D) : PySem.W.dataLe false id x y = !PySem.W.dataLt y x := by rfl
theorem cutD_take {xs : List D} {k : Nat} : cutD xs none (some (k : Int)) = xs.take k := by
  unfold cutD
  rw [HT.sIx_none, HT.sIx_nat]
  simp only [List.drop_zero, Nat.sub_zero]
  rw [List.take_eq_take_iff]; omega
theorem gSl_t {ds : List D} {lo hi : Option Int} : gSl (.tuple ds) lo hi = some (.fz (.tuple (cutD ds lo hi))) := rfl
theorem next_ok' {ds : List Int} {i : Nat} {m : Int} (hm : 0 < m) : nextF [.ow (Wd ds i), .fz (.int m)] = .ok (.fz (.int (nx ds i m))) [.ow (Wd ds (i + 1 : Nat)), .fz (.int m)] := next_ok ds i m hm
theorem nx_bd (ds : List Int) (i : Nat) (m : Int) (h : 0 < m) : 0 ≤ nx ds i m ∧ nx ds i m < m := ⟨nx_nonneg h, nx_lt h⟩
/-- data that may be compared -/
def fine (n : Nat) (d : D) : Prop := d.canLay0 = true ∧ d.depth ≤ n
theorem fine_all {n : Nat} {ds : List D} (h : ∀ d ∈ ds, fine n d) : PyData.canLayAll0 ds = true ∧ PyData.depthAll ds ≤ n := by
  induction ds with
  | nil => exact ⟨by simp [PyData.canLayAll0], by simp [PyData.depthAll]⟩
  | cons x xs ih =>
    obtain ⟨a, b⟩ := ih fun d hd => h d (by simp [hd])
    obtain ⟨c, e⟩ := h x (by simp)
    exact ⟨by simp [PyData.canLayAll0, a, c], by simp only [PyData.depthAll]; omega⟩
theorem fine_l {n : Nat} {ds : List D} (h : ∀ d ∈ ds, fine n d) : fine (n + 1) (.list ds) := by
  obtain ⟨a, b⟩ := fine_all h
  exact ⟨by simpa [PyData.canLay0] using a, by simpa [PyData.depth] using b⟩
theorem fine_t {n : Nat} {ds : List D} (h : ∀ d ∈ ds, fine n d) : fine (n + 1) (.tuple ds) := by
  obtain ⟨a, b⟩ := fine_all h
  exact ⟨by simpa [PyData.canLay0] using a, by simpa [PyData.depth] using b⟩
theorem fine_i {n : Nat} {i : Int} : fine n (.int i) := ⟨by simp [PyData.canLay0], by simp [PyData.depth]⟩
theorem fine_s {n : Nat} {x : Str} (h : PyData.strOk x = true) : fine n (.str x) := ⟨by simpa [PyData.canLay0] using h, by simp [PyData.depth]⟩
theorem fine_le {n m : Nat} {d : D} (h : fine n d) (hm : n ≤ m) : fine m d := ⟨h.1, Nat.le_trans h.2 hm⟩
theorem fine_sh {n : Nat} {d : D} (h : fine n d) (hn : n ≤ 64) : SeqAt.shaped d = true := by
  unfold SeqAt.shaped
  rw [h.1, Bool.true_and, decide_eq_true_eq]; exact Nat.le_trans h.2 hn
theorem eqv_i {a b : Int} : PyData.eqv (.int a) (.int b) = decide (a = b) := by
  simp only [PyData.eqv]
  show (a == b) = _
  rw [show (a == b) = decide (a = b) from rfl]
theorem eqv_s {a b : Str} : PyData.eqv (.str a) (.str b) = decide (a = b) := by
  simp only [PyData.eqv]
  by_cases h : a = b
  · subst h; simp
  · rw [decide_eq_false h]; simpa using h
theorem eqv_t {a b : List D} : PyData.eqv (.tuple a) (.tuple b) = PyData.eqvAll a b := by simp only [PyData.eqv]
theorem eqv_l {a b : List D} : PyData.eqv (.list a) (.list b) = PyData.eqvAll a b := by simp only [PyData.eqv]
theorem eqv_c {x y : D} {a b : List D} : PyData.eqvAll (x :: a) (y :: b) = (PyData.eqv x y && PyData.eqvAll a b) := by simp only [PyData.eqvAll]
theorem eqv_0 : PyData.eqvAll [] [] = true := by simp only [PyData.eqvAll]
theorem eqv_10 {x : D} {a : List D} : PyData.eqvAll (x :: a) [] = false := by simp only [PyData.eqvAll]
theorem eqv_01 {x : D} {a : List D} : PyData.eqvAll [] (x :: a) = false := by simp only [PyData.eqvAll]
theorem gEq_of {x y : D} (hx : SeqAt.shaped x = true) (hy : SeqAt.shaped y = true) : gEq x y = some (PyData.eqv x y) := by
  unfold gEq
  split
  · simp only [PyData.eqv]
  · simp only [PyData.eqv]
  · simp only [PyData.eqv]
  · rw [hx, hy]; rfl
end DL
namespace DL
open PySem PySem.Spec PyProof.Rows L2
/-! ### list(range(..)), tuple(range(..)) -/
end DL
namespace DL
open PySem PySem.Spec PyProof.Rows L2
/-! ### the end: the script as a law gets it -/
def notLst (v : Value) : Bool := match v with
  | .type s => !(s == "list")
  | _ => true
def noLists (K : PySem.W.Frag) : Bool := K.all fun p => notLst p.2.cls
theorem noLists_ok : ∀ {K : PySem.W.Frag} {a : Addr} {o : Obj}, noLists K = true → K.lookup a = some o → o.cls ≠ .type "list"
  | [], _, _, _, h => nomatch h
  | (b, p) :: K, a, o, hn, h => fun hc => by
    unfold noLists at hn
    rw [List.all_cons, Bool.and_eq_true] at hn
    rw [List.lookup_cons] at h
    split at h
    · cases h
      have := hn.1
      simp only [hc] at this
      exact absurd this (by decide)
    · exact noLists_ok (K := K) hn.2 h hc
def spL : Sp := fun vs H Q _ => ∃ (a : Addr) (ns : List Int), vs = [.ref a] ∧ Rd H a (.lst (ns.map V.int)) ∧ ns.length ≤ 63 ∧ ∀ H', Q (.bl true) H'
theorem spL_of {K : PySem.W.Frag} {H : Hp} {a : Addr} {ns : List Int} {E : XK} (hS : SqL K H a (ns.map V.int)) (hl : ns.length ≤ 63) (hN : noLists K = true) : spL [.ref a] H (fun v _ => v = .bl true) E := by
  refine ⟨a, ns, rfl, ?_, hl, fun _ => rfl⟩
  rcases hS with h | ⟨o, its, n, hk, hc, _⟩
  · exact h
  · exact absurd hc (noLists_ok hN hk)
/-- what a law asks of its own def -/
def LawOk (sem : M Rs) : Prop := ∀ script : List Int, script.length ≤ 63 → ∃ ρ', sem [.fz (.list (script.map .int))] = .ok (.fz (.bool true)) ρ'
theorem spL_imp {K : KW} {sem : M Rs} (h : LawOk sem) : ∀ vs H Q E, spL vs H Q E → spD K 1 sem vs H Q E := fun vs H Q E ⟨a, ns, e, hr, hl, q⟩ => by
  subst e
  obtain ⟨ρ', hs⟩ := h ns hl
  have hF : Rd (fun b => if b = a then H a else none) a (.lst (ns.map V.int)) := by
    rcases hr with z | ⟨o, z⟩
    · exact .inl ((if_pos rfl).trans z)
    · exact .inr ⟨o, (if_pos rfl).trans z⟩
  have no : ∀ i b, ¬ HdAt [some (V.ref a)] [Sl.fz (.list (ns.map .int))] i b := fun i b z => by
    rcases z with ⟨_, d, z⟩ | ⟨_, d, z⟩ <;>
    · match i, z with
      | 0, z => cases z
      | i + 1, z => cases z
  refine ⟨rfl, fun b => if b = a then H a else none, _, _, ρ', ⟨fun b o z => ?_, rfl, fun i s z => ?_, fun i j b z _ => absurd z (no i b)⟩, hs, fun F' H' v x r => ?_⟩
  · by_cases hb : b = a
    · subst hb; exact (if_pos rfl).symm.trans z
    · exact nomatch (if_neg hb).symm.trans z
  · match i, z with
    | 0, z =>
      cases z
      exact ⟨.ref a, rfl, .lst hF (RpA.of_ints ns)⟩
    | i + 1, z => cases z
  · have r : Rp K F' v (.bool true) := r
    cases r
    exact q H'
theorem law_end {P : Program} {w : World} {K : PySem.W.Frag} {mg : Str → Option Value} {k : Nat} {fa : Addr} {sem : M Rs} (h : LawOk sem)
    (q : ∃ fd : FuncData, (∀ (s : Shared) (u : Value), BindsTo s fd ⟨[u], []⟩ [("script", u)]) ∧ ∀ base : Heap, K.In base → base.Ns mainGlobals mg → FnOk P w K mg base CX0 k fa fd ["script"] (spD ⟨K, w⟩ 1 sem)) :
    ∃ fd : FuncData, (∀ (s : Shared) (u : Value), BindsTo s fd ⟨[u], []⟩ [("script", u)]) ∧ ∀ base : Heap, K.In base → base.Ns mainGlobals mg → FnOk P w K mg base CX0 k fa fd ["script"] spL := by
  obtain ⟨fd, b, F⟩ := q
  exact ⟨fd, b, fun base h1 h2 => (F base h1 h2).imp (spL_imp h)⟩
end DL
namespace DL
open PySem PySem.Spec PyProof.Rows L2
/-! ### a tuple the other way round -/
section
variable {prog : Program} {w : World} {A : Around} {E : Value → Shared → Prop} {s : Shared}
theorem fm_congr {α β : Type} {f g : α → Option β} : ∀ {l : List α}, (∀ x ∈ l, f x = g x) → l.filterMap f = l.filterMap g
  | [], _ => rfl
  | x :: l, h => by
    rw [List.filterMap_cons, List.filterMap_cons, h x (by simp), fm_congr fun y hy => h y (by simp [hy])]
end
/-! ### range(a, b, -1) -/
end DL
namespace DL
open PySem PySem.Spec PyProof.Rows L2
/-! ### zip of two, each a list or a tuple -/
def ItX (t : Bool) (h : Heap) (it a : Addr) (k : Nat) : Prop := if t = true then h.IsTupleIter it a k else h.IsListIter it a k
theorem ItX.at {t : Bool} {h h' : Heap} {it a : Addr} {k : Nat} (x : ItX t h it a k) (e : ∀ o, h.get? it = some o → h'.get? it = some o) : ItX t h' it a k := by
  cases t
  · exact Heap.IsListIter.at x e
  · exact Heap.IsTupleIter.at x e
end DL
namespace DL
open PySem PySem.Spec PyProof.Rows L2
end DL
namespace DL
open PySem PySem.Spec PyProof.Rows L2
theorem cgs {X : Cx} {x v : Str} {pos : Pos} (hg : Gl X x) (h : ∃ u, X.mg x = some u ∧ RelV (.str v) u) (hd : (x == ("__debug__" : Str)) = false := by decide) : PE X (.Name x pos) (tSem X.kw (dC (.str v))) := by
  obtain ⟨u, hm, r⟩ := h
  exact cg hg hm r (fun _ _ => .str v) hd
end DL
namespace DL
open PySem L2
section
variable {ρ : List Sl}
theorem gIx_tz {xs : List D} {d : D} : gIx (.tuple (xs ++ [d])) (.int (-1)) = some (.fz d) := by
  show (atI (xs ++ [d]) (-1)).map _ = _
  rw [atI_last]; rfl
end
end DL
namespace DL
open PySem PySem.Spec PyProof.Rows L2
/-! ### set(..) of a list of ints, sorted -/
end DL
namespace DL
open PySem PySem.Spec PyProof.Rows L2
/-! ### dict(..) of a list of pairs, of a dict -/
end DL
-- 26
namespace DL
open PySem L2
/-! ### the look at two values by a list of what waits -/
end DL
-- 26
namespace DL
open PySem L2
/-! ### encodings that tell their values apart -/
def EqE {α : Type} [DecidableEq α] (enc : α → D) : Prop := ∀ a b, PyData.eqv (enc a) (enc b) = decide (a = b)
theorem eqE_nat : EqE (fun k : Nat => PyData.int (k : Int)) := fun a b => by
  rw [eqv_i]; by_cases h : a = b
  · subst h; simp
  · rw [decide_eq_false h, decide_eq_false (by omega)]
theorem eqvAll_map {α : Type} [DecidableEq α] {enc : α → D} (h : EqE enc) : ∀ (xs ys : List α), PyData.eqvAll (xs.map enc) (ys.map enc) = decide (xs = ys)
  | [], [] => by rw [List.map_nil, eqv_0]; rfl
  | [], y :: ys => by rw [List.map_nil, List.map_cons, eqv_01]; rfl
  | x :: xs, [] => by rw [List.map_nil, List.map_cons, eqv_10]; rfl
  | x :: xs, y :: ys => by
    rw [List.map_cons, List.map_cons, eqv_c, h, eqvAll_map h xs ys]
    by_cases e : x = y
    · subst e
      by_cases e2 : xs = ys
      · subst e2; simp
      · simp [e2]
    · simp [e]
theorem eqE_tup {α : Type} [DecidableEq α] {enc : α → D} (h : EqE enc) : EqE (fun xs : List α => PyData.tuple (xs.map enc)) := fun a b => by rw [eqv_t, eqvAll_map h]
theorem eqE_lst {α : Type} [DecidableEq α] {enc : α → D} (h : EqE enc) : EqE (fun xs : List α => PyData.list (xs.map enc)) := fun a b => by rw [eqv_l, eqvAll_map h]
theorem eqE_pair {α β : Type} [DecidableEq α] [DecidableEq β] {e1 : α → D} {e2 : β → D} (h1 : EqE e1) (h2 : EqE e2) : EqE (fun t : α × β => PyData.tuple [e1 t.1, e2 t.2]) := fun a b => by
  rw [eqv_t, eqv_c, eqv_c, eqv_0, h1, h2]
  obtain ⟨a1, a2⟩ := a; obtain ⟨b1, b2⟩ := b
  by_cases z1 : a1 = b1 <;> by_cases z2 : a2 = b2 <;> simp [z1, z2]
theorem any_e {α : Type} [DecidableEq α] {enc : α → D} (h : EqE enc) (v : α) (L : List α) : ((L.map enc).any fun z => PyData.eqv z (enc v)) = decide (v ∈ L) := by
  induction L with
  | nil => simp
  | cons x xs ih =>
    rw [List.map_cons, List.any_cons, ih, h]
    by_cases e : x = v
    · subst e; simp
    · have e' : ¬ v = x := fun z => e z.symm
      simp [e, e']
theorem gIn_l0 {x : D} {ds : List D} (h1 : SeqAt.shaped x = true) (h2 : SeqAt.shaped (.list ds) = true) : gIn x (.list ds) = some (ds.any fun z => PyData.eqv z x) := by
  have e : gIn x (.list ds) = if (SeqAt.shaped x && SeqAt.shaped (.list ds)) = true then some (ds.any fun z => PyData.eqv z x) else none := by cases x <;> rfl
  rw [e, h1, h2]; rfl
section
variable {α : Type} [DecidableEq α] {enc : α → D} {n : Nat}
theorem gIn_l (h : EqE enc) (hn : n ≤ 63) {v : α} {L : List α} (hv : fine n (enc v)) (hL : ∀ x ∈ L, fine n (enc x)) : gIn (enc v) (.list (L.map enc)) = some (decide (v ∈ L)) := by
  have s1 : SeqAt.shaped (enc v) = true := fine_sh hv (by omega)
  have s2 : SeqAt.shaped (.list (L.map enc)) = true := fine_sh (n := n + 1) (fine_l fun d hd => by obtain ⟨x, hx, rfl⟩ := List.mem_map.mp hd; exact hL x hx) (by omega)
  rw [gIn_l0 s1 s2, any_e h]
theorem gNotIn_of {x y : D} {b : Bool} (h : gIn x y = some b) : gNotIn x y = some (!b) := by unfold gNotIn; rw [h]; rfl
theorem gEq_e (h : EqE enc) (hn : n ≤ 64) {a b : α} (ha : fine n (enc a)) (hb : fine n (enc b)) : gEq (enc a) (enc b) = some (decide (a = b)) := by
  rw [gEq_of (fine_sh ha hn) (fine_sh hb hn), h]
end
theorem fine_lm {α : Type} {enc : α → D} {n : Nat} {L : List α} (h : ∀ x ∈ L, fine n (enc x)) : fine (n + 1) (.list (L.map enc)) := fine_l fun d hd => by obtain ⟨x, hx, rfl⟩ := List.mem_map.mp hd; exact h x hx
theorem fine_tm {α : Type} {enc : α → D} {n : Nat} {L : List α} (h : ∀ x ∈ L, fine n (enc x)) : fine (n + 1) (.tuple (L.map enc)) := fine_t fun d hd => by obtain ⟨x, hx, rfl⟩ := List.mem_map.mp hd; exact h x hx
/-! ### dicts of pairs whose keys differ -/
end DL
namespace DL
open PySem PySem.Spec PyProof.Rows L2
/-! ### a dict is locked while it is walked -/
end DL
namespace DL
open PySem PySem.Spec PyProof.Rows L2
end DL
namespace DL
open PySem PySem.Spec PyProof.Rows L2
end DL
namespace DL
open PySem PySem.Spec PyProof.Rows L2
/-! ### sorted(..) of a list, a tuple, a dict's keys -/
end DL
namespace DL
open PySem PySem.Spec PyProof.Rows L2
/-! ### the rules of reckoning -/
end DL
namespace DL
open PySem PySem.Spec PyProof.Rows L2
/-! ### sets of ints and texts that can be walked -/
def keyV (v : Value) : Key := match v with
  | .int k _ => .inl k
  | .str x _ => .inr x
  | _ => .inl 0
def GoodK (P : Program) (w : World) (e : Int × Value) : Prop := ∃ k, keyIs k e.2 = true ∧ e.1 = (mixKind P w).hash k
def kOf (e : Int × Value) : Key := keyV e.2
/-- the set at a: S its members, n their number; its table rises and can be walked -/
def SetRK (P : Program) (w : World) (h : Heap) (a : Addr) (S : Key → Bool) (n : Nat) : Prop :=
  ∃ o es ep t, h.get? a = some o ∧ o.ExactSet ∧ o.data = .set es ep t ∧ (∀ e ∈ es.toList, GoodK P w e) ∧ (es.toList.map kOf).Nodup ∧ (∀ k, S k = true ↔ k ∈ es.toList.map kOf) ∧
    es.size < scanBound ∧ t.fits es.size = true ∧ es.size = n ∧ Ris t.place.toList ∧ (w.params.followText "set-order" = true ∨ t.led = true)
section
variable {P : Program} {w : World} {h h' : Heap} {a : Addr} {S : Key → Bool} {n : Nat}
theorem SetRK.at (R : SetRK P w h a S n) (k : ∀ o, h.get? a = some o → h'.get? a = some o) : SetRK P w h' a S n := by
  obtain ⟨o, es, ep, t, ho, r⟩ := R
  exact ⟨o, es, ep, t, k o ho, r⟩
end
end DL
namespace DL
open PySem PySem.Spec PyProof.Rows L2
/-! ### the members, each once, in order -/
end DL
-- 26 35
namespace DL
open PySem L2
/-! ### dicts by their texts and a function -/
end DL
/-! DL39: a, b = x, y where names are shared with inner functions: through a pair -/
namespace DL
open PySem PySem.Spec PyProof.Rows L2
variable {Wx : WX}
section
variable {K : KW} {F H F' H' : Hp} {σ σ' : SS} {ρ ρ' : List Sl} {P : Nat → Prop}
theorem sem_parU {i j : Nat} {f : M (List Rs)} (hi : ¬ P i) (hj : ¬ P j) : ∀ D σ H, tSemS K Wx P (dPar [i, j] f) D σ H → tAsg (tTup (tSemA K f)) (gTup K 2 (gCons (gName i) (gCons (gName j) gNil))) D σ H := fun D σ H ⟨F, ρ, s, h⟩ => by
  unfold dPar at h
  cases e : bd f (argSA ([i, j].map fun _ => false)) ρ with
  | bad => rw [e] at h; exact h.elim
  | ok rs ρ1 =>
    rw [e] at h
    cases e2 : setQs [i, j] rs ρ1 with
    | none => simp only [e2] at h; exact h.elim
    | some ρ2 =>
      simp only [e2] at h
      obtain ⟨r, ρ3, e3, e4⟩ := bd_ok e
      refine ⟨F, ρ, r, ρ3, s, e3, fun F' H' vs x q => ?_⟩
      obtain ⟨F2, x2, q2, _⟩ := argSA_ok x q e4
      obtain ⟨l, x3, p⟩ := setQs_ok (P := P) (fun k hk => by
        rcases List.mem_cons.mp hk with z | z
        · rw [z]; exact hi
        · rw [List.mem_singleton.mp z]; exact hj) x2 q2 e2
      match vs, l with
      | [v, w], _ =>
        refine ⟨by show 2 ≤ sizeLine; decide, fun t ht => ⟨t, [v, w], rfl, SqT.of upd_same, rfl, v, [w], rfl, w, [], rfl, rfl, ?_⟩⟩
        have hf : F2 t = none := by
          cases hz : F2 t with
          | none => rfl
          | some o => have := x3.st.le t o hz; rw [ht] at this; cases this
        have hn : ∀ k, ¬ HdAt _ ρ2 k t := fun k hk => by
          obtain ⟨_, d, ho⟩ := x3.st.held hk
          exact ho.ne ht
        exact h F2 _ _ (x3.updFree (x3.back ht) hf hn) p
theorem sparU {X : Cx} {i j : Nat} {x y : Str} {a b : Expr} {fa : M (List Rs)} {px py pt pos : Pos} {kt k2 pt2} (h1 : ¬ P i) (h2 : ¬ P j) (hc : X.calm = true) (hN : X.N.Nodup) (hi : X.N[i]? = some x) (hj : X.N[j]? = some y)
    (hx : Loc X.env.scope x) (hy : Loc X.env.scope y) (ha : PA X [a, b] (tSemA X.kw fa))
    (hw : swappedStores [.Tuple [.Name x px, .Name y py] kt pt] (.Tuple [a, b] k2 pt2) X.env = pure none := by rfl)
    (hs : swapsWithSole [.Tuple [.Name x px, .Name y py] kt pt] (.Tuple [a, b] k2 pt2) pos.line X.env = pure false := by rfl)
    (hfx : X.fn x = true ∨ X.env.scope.names.lookup x = some .local := by first | exact .inl rfl | exact .inr rfl | assumption) (hfy : X.fn y = true ∨ X.env.scope.names.lookup y = some .local := by first | exact .inl rfl | exact .inr rfl | assumption) :
    PS X (.Assign [.Tuple [.Name x px, .Name y py] kt pt] (.Tuple [a, b] k2 pt2) pos) (tSemS X.kw Wx P (dPar [i, j] fa)) :=
  psWeak (ps_asg (pe_tup ha) (pg_tup hc (pgs_cons (pg_name hN hi hx hfx) (pgs_cons (pg_name hN hj hy hfy) pgs_nil))) hs hw) (sem_parU h1 h2)
end
end DL
/-! DL40: list(dict) -/
namespace DL
open PySem PySem.Spec PyProof.Rows L2
end DL
/-! DL41: set(tuple of keys), sorted(set(..)) of texts in a list or a tuple -/
namespace DL
open PySem PySem.Spec PyProof.Rows L2
end DL
/-! DL42: sorted(d.items()), list(d.items()) -/
namespace DL
open PySem PySem.Spec PyProof.Rows L2
end DL
/-! DL43: dict.get -/
namespace DL
open PySem PySem.Spec PyProof.Rows L2
end DL
/-! DL44: list(d.items()) -/
namespace DL
open PySem PySem.Spec PyProof.Rows L2
end DL
/-! DL45: == of lists of unlike lengths and of tuples with a plain front, whatever they hold -/
namespace DL
open PySem PySem.Spec PyProof.Rows L2
open PySem.SeqAt (EqAt RcAt RcNeAt)
def mn (a b : List D) : Nat := min a.length b.length
def frontOk (a b : List D) : Bool := SeqAt.shaped (.tuple (a.take (mn a b))) && SeqAt.shaped (.tuple (b.take (mn a b)))
def frontEq (a b : List D) : Bool := (List.range (mn a b)).all (fun j => PyData.eqv (a.getD j .none) (b.getD j .none)) && a.length == b.length
def gEqX (x y : D) : Option Bool := match gEq x y with
  | some b => some b
  | none => match x, y with
    | .list a, .list b => if a.length ≠ b.length then some false else none
    | .tuple a, .tuple b => if frontOk a b = true then some (frontEq a b) else none
    | _, _ => none
def gNeX (x y : D) : Option Bool := (gEqX x y).map fun b => !b
theorem gEqX_of {x y : D} {b : Bool} (h : gEq x y = some b) : gEqX x y = some b := by unfold gEqX; rw [h]
theorem gNeX_of' {x y : D} {b : Bool} (h : gEqX x y = some b) : gNeX x y = some (!b) := by unfold gNeX; rw [h]; rfl
theorem gNeX_of {x y : D} {b : Bool} (h : gEq x y = some b) : gNeX x y = some (!b) := gNeX_of' (gEqX_of h)
theorem gNeX_nof {x y : D} {b : Bool} (h : gNe x y = some b) : gNeX x y = some b := by
  unfold gNe at h
  cases e : gEq x y with
  | none => rw [e] at h; cases h
  | some c => rw [e] at h; rw [gNeX_of e]; exact h
theorem gEqX_len {a b : List D} (h : a.length ≠ b.length) (hs : ∀ c, gEq (.list a) (.list b) = some c → c = false) : gEqX (.list a) (.list b) = some false := by
  unfold gEqX
  cases e : gEq (.list a) (.list b) with
  | some c => rw [hs c e]
  | none => simp only; rw [if_pos h]
theorem eqvAll_len : ∀ {a b : List D}, a.length ≠ b.length → PyData.eqvAll a b = false
  | [], [], h => absurd rfl h
  | [], _ :: _, _ => eqv_01
  | _ :: _, [], _ => eqv_10
  | x :: a, y :: b, h => by rw [eqv_c, eqvAll_len (by simpa using h), Bool.and_false]
theorem gEq_if {x y : D} {c : Bool} (h : gEq x y = some c) : c = PyData.eqv x y := by
  unfold gEq at h
  split at h
  · cases h; simp only [PyData.eqv]
  · cases h; simp only [PyData.eqv]
  · cases h; simp only [PyData.eqv]
  · split at h
    · exact (Option.some.inj h).symm
    · cases h
theorem gEqX_ll {a b : List D} (h : a.length ≠ b.length) : gEqX (.list a) (.list b) = some false := gEqX_len h fun c e => by rw [gEq_if e, eqv_l, eqvAll_len h]
theorem gEqX_nil : gEqX (.list []) (.list []) = some true := gEqX_of (by rfl)
theorem gEqX_lnil {a : List D} : gEqX (.list a) (.list []) = some a.isEmpty := by
  cases a with
  | nil => exact gEqX_nil
  | cons x xs => exact gEqX_ll (by simp)
section
variable {X : Cx} {pins : List (Addr × Obj)} {σ : L2.St} {H : Hp} {s : Shared}
theorem Vw.rp3 {K : KW} {F : Hp} {v : V} {d : D} (sm : Same F H) (h : Vw K F H v d) : (∃ a xs ds, v = .ref a ∧ d = .list ds ∧ SqL K H a xs ∧ RpA K H xs ds) ∨ (∃ a xs ds, v = .ref a ∧ d = .tuple ds ∧ SqT K H a xs ∧ RpA K H xs ds) ∨ ((∀ ds, d ≠ .list ds) ∧ (∀ ds, d ≠ .tuple ds)) := by
  rcases h with h | ⟨a, rfl, o⟩
  · cases h with
    | lst h1 h2 => exact .inl ⟨_, _, _, rfl, rfl, .inl (rd_mono sm h1), h2.mono sm⟩
    | tup h1 h2 => exact .inr (.inl ⟨_, _, _, rfl, rfl, sqT_mono sm h1.sq, h2.mono sm⟩)
    | _ => exact .inr (.inr ⟨fun _ z => (nomatch z), fun _ z => (nomatch z)⟩)
  · cases d with
    | list ds => obtain ⟨vs, e, r⟩ := o; exact .inl ⟨_, _, _, rfl, rfl, .inl (.inl e), r.mono sm⟩
    | tuple ds => exact o.elim
    | _ => exact .inr (.inr ⟨fun _ z => (nomatch z), fun _ z => (nomatch z)⟩)
theorem rpA_len {K : KW} {xs : List V} {ds : List D} {us : List Value} (h : RpA K H xs ds) (r : Vals xs us) : us.length = ds.length := by rw [← r.length, h.length]
theorem frontOk_at {a b : List D} (h : frontOk a b = true) {j : Nat} (hj : j < mn a b) : ∃ x y, a[j]? = some x ∧ b[j]? = some y ∧ x.canLay0 = true ∧ y.canLay0 = true ∧ x.depth ≤ 63 ∧ y.depth ≤ 63 ∧ PyData.eqv (a.getD j .none) (b.getD j .none) = PyData.eqv x y := by
  have ha : j < a.length := Nat.lt_of_lt_of_le hj (Nat.min_le_left _ _)
  have hb : j < b.length := Nat.lt_of_lt_of_le hj (Nat.min_le_right _ _)
  unfold frontOk at h
  rw [Bool.and_eq_true] at h
  have key : ∀ (l : List D), SeqAt.shaped (.tuple (l.take (mn a b))) = true → ∀ hl : j < l.length, l[j].canLay0 = true ∧ l[j].depth ≤ 63 := fun l hs hl => by
    unfold SeqAt.shaped at hs
    rw [Bool.and_eq_true, decide_eq_true_eq] at hs
    have h1 : PyData.canLayAll0 (l.take (mn a b)) = true := by simpa [PyData.canLay0] using hs.1
    have h2 : PyData.depthAll (l.take (mn a b)) + 1 ≤ 64 := by have := hs.2; simp only [PyData.depth] at this; omega
    have hm : l[j] ∈ l.take (mn a b) := List.mem_take_iff_getElem.mpr ⟨j, by rw [Nat.lt_min]; exact ⟨hj, hl⟩, rfl⟩
    have q1 : ∀ (m : List D), PyData.canLayAll0 m = true → ∀ z ∈ m, z.canLay0 = true := fun m => by
      induction m with
      | nil => intro _ z hz; simp at hz
      | cons w ws ih =>
        intro hc z hz
        rw [PyData.canLayAll0, Bool.and_eq_true] at hc
        rcases List.mem_cons.mp hz with e | e
        · rw [e]; exact hc.1
        · exact ih hc.2 z e
    have q2 : ∀ (m : List D) (n : Nat), PyData.depthAll m ≤ n → ∀ z ∈ m, z.depth ≤ n := fun m n => by
      induction m with
      | nil => intro _ z hz; simp at hz
      | cons w ws ih =>
        intro hc z hz
        simp only [PyData.depthAll] at hc
        rcases List.mem_cons.mp hz with e | e
        · rw [e]; omega
        · exact ih (by omega) z e
    exact ⟨q1 _ h1 _ hm, q2 _ 63 (by omega) _ hm⟩
  obtain ⟨c1, d1⟩ := key a h.1 ha
  obtain ⟨c2, d2⟩ := key b h.2 hb
  refine ⟨_, _, List.getElem?_eq_getElem ha, List.getElem?_eq_getElem hb, c1, c2, d1, d2, ?_⟩
  rw [List.getD_eq_getElem?_getD, List.getD_eq_getElem?_getD, List.getElem?_eq_getElem ha, List.getElem?_eq_getElem hb]; rfl
theorem front_eqAt (I : Inv X pins σ H s) {xs ys : List V} {us ws : List Value} {a b : List D} (ra : RpA X.kw H xs a) (rb : RpA X.kw H ys b) (r1 : Vals xs us) (r2 : Vals ys ws) (hf : frontOk a b = true) (hu : X.A.units + 65 < cLine)
    (j : Nat) (h1 : j < us.length) (h2 : j < ws.length) : EqAt X.A.in1 s us[j] ws[j] (PyData.eqv (a.getD j .none) (b.getD j .none)) := by
  have l1 := rpA_len ra r1
  have l2 := rpA_len rb r2
  obtain ⟨x, y, ea, eb, c1, c2, d1, d2, ee⟩ := frontOk_at hf (j := j) (by unfold mn; omega)
  rw [ee]
  have hx : j < xs.length := by rw [r1.length]; exact h1
  have hy : j < ys.length := by rw [r2.length]; exact h2
  have px := ra.get (i := j) (List.getElem?_eq_getElem hx) ea
  have py := rb.get (i := j) (List.getElem?_eq_getElem hy) eb
  obtain ⟨w1, f1, vx⟩ := r1.get (i := j) (List.getElem?_eq_getElem hx)
  obtain ⟨w2, f2, vy⟩ := r2.get (i := j) (List.getElem?_eq_getElem hy)
  rw [List.getElem?_eq_getElem h1] at f1
  rw [List.getElem?_eq_getElem h2] at f2
  cases f1; cases f2
  obtain ⟨as, q1⟩ := Dp.reads I x _ _ (px.dp (Same.refl _) (noD_lay _ c1)) vx
  obtain ⟨bs, q2⟩ := Dp.reads I y _ _ (py.dp (Same.refl _) (noD_lay _ c2)) vy
  exact PySem.SeqAt.eqAt_reads x y _ _ _ _ _ _ q1 q2 c1 c2 (by show X.A.units + 1 + _ < cLine; omega)
theorem front_all {us ws : List Value} {a b : List D} (h1 : us.length = a.length) (h2 : ws.length = b.length) : ((List.range (min us.toArray.size ws.toArray.size)).all (fun j => PyData.eqv (a.getD j .none) (b.getD j .none)) && us.toArray.size == ws.toArray.size) = frontEq a b := by
  unfold frontEq mn
  rw [List.size_toArray, List.size_toArray, h1, h2]
end
section
variable {X : Cx}
theorem eqX_cases {dx dy : D} {b : Bool} (e : gEqX dx dy = some b) : gEq dx dy = some b ∨ (∃ p q, dx = .list p ∧ dy = .list q ∧ p.length ≠ q.length ∧ b = false) ∨ (∃ p q, dx = .tuple p ∧ dy = .tuple q ∧ frontOk p q = true ∧ b = frontEq p q) := by
  unfold gEqX at e
  split at e
  · rename_i c h; rw [h]; exact .inl e
  · split at e
    · split at e
      · rename_i h; cases e; exact .inr (.inl ⟨_, _, rfl, rfl, h, rfl⟩)
      · cases e
    · split at e
      · rename_i h; cases e; exact .inr (.inr ⟨_, _, rfl, rfl, h, rfl⟩)
      · cases e
    · cases e
theorem oEqX (hu : X.A.units + 65 < cLine) : OpR X (compareOp .Eq) (rG X.kw (gB gEqX)) := by
  intro pins s σ H x y v u Q I rx ry ⟨F, dx, dy, res, sm, hx, hy, e, q⟩
  obtain ⟨k, e0, rfl⟩ := map_b e
  rcases eqX_cases e0 with h | ⟨p, r, rfl, rfl, h, rfl⟩ | ⟨p, r, rfl, rfl, h, rfl⟩
  · exact oEq (by omega) pins s σ H x y v u Q I rx ry ⟨F, dx, dy, _, sm, hx, hy, by unfold gB; rw [h]; rfl, q⟩
  · rcases hx.rp3 sm with ⟨a, xs, ds, rfl, e1, sa, ra⟩ | ⟨a, xs, ds, rfl, e1, _, _⟩ | ⟨z, _⟩
    · rcases hy.rp3 sm with ⟨b, ys, es, rfl, e2, sb, rb⟩ | ⟨b, ys, es, rfl, e2, _, _⟩ | ⟨z, _⟩
      · cases e1; cases e2
        cases (show v = Value.ref a from rx)
        cases (show u = Value.ref b from ry)
        obtain ⟨us, r1, p1, _⟩ := I.list sa
        obtain ⟨ws, r2, p2, _⟩ := I.list sb
        have l1 := rpA_len ra r1
        have l2 := rpA_len rb r2
        exact RcAt.lists_lengths p1.isList p2.isList (by rw [List.size_toArray, List.size_toArray, l1, l2]; simpa using h) (by omega) X.prog X.w _ _ ⟨.bl _, H, I, rfl, q.same sm (.bl _)⟩
      · cases e2
      · exact absurd rfl (z _)
    · cases e1
    · exact absurd rfl (z _)
  · rcases hx.rp3 sm with ⟨a, xs, ds, rfl, e1, _, _⟩ | ⟨a, xs, ds, rfl, e1, sa, ra⟩ | ⟨_, z⟩
    · cases e1
    · rcases hy.rp3 sm with ⟨b, ys, es, rfl, e2, _, _⟩ | ⟨b, ys, es, rfl, e2, sb, rb⟩ | ⟨_, z⟩
      · cases e2
      · cases e1; cases e2
        cases (show v = Value.ref a from rx)
        cases (show u = Value.ref b from ry)
        obtain ⟨us, r1, p1, _⟩ := I.tuple sa
        obtain ⟨ws, r2, p2, _⟩ := I.tuple sb
        have l1 := rpA_len ra r1
        have l2 := rpA_len rb r2
        refine RcAt.tuples (e := fun j => PyData.eqv (p.getD j .none) (r.getD j .none)) p1 p2 (by omega) (fun j h1 h2 => ?_) X.prog X.w _ _ ⟨.bl (frontEq p r), H, I, by rw [front_all l1 l2]; rfl, q.same sm (.bl _)⟩
        have := front_eqAt I ra rb r1 r2 h hu j (by simpa using h1) (by simpa using h2)
        simpa using this
      · exact absurd rfl (z _)
    · exact absurd rfl (z _)
theorem oNeX (hu : X.A.units + 65 < cLine) : OpR X (compareOp .NotEq) (rG X.kw (gB gNeX)) := by
  intro pins s σ H x y v u Q I rx ry ⟨F, dx, dy, res, sm, hx, hy, e, q⟩
  obtain ⟨k, e0, rfl⟩ := map_b e
  obtain ⟨k', e1, rfl⟩ : ∃ k', gEqX dx dy = some k' ∧ k = !k' := by
    unfold gNeX at e0
    cases h : gEqX dx dy with
    | none => rw [h] at e0; cases e0
    | some k' => rw [h] at e0; cases e0; exact ⟨k', rfl, rfl⟩
  rcases eqX_cases e1 with h | ⟨p, r, rfl, rfl, h, rfl⟩ | ⟨p, r, rfl, rfl, h, rfl⟩
  · exact oNe (by omega) pins s σ H x y v u Q I rx ry ⟨F, dx, dy, _, sm, hx, hy, by unfold gB gNe; rw [h]; rfl, q⟩
  · rcases hx.rp3 sm with ⟨a, xs, ds, rfl, e1, sa, ra⟩ | ⟨a, xs, ds, rfl, e1, _, _⟩ | ⟨z, _⟩
    · rcases hy.rp3 sm with ⟨b, ys, es, rfl, e2, sb, rb⟩ | ⟨b, ys, es, rfl, e2, _, _⟩ | ⟨z, _⟩
      · cases e1; cases e2
        cases (show v = Value.ref a from rx)
        cases (show u = Value.ref b from ry)
        obtain ⟨us, r1, p1, _⟩ := I.list sa
        obtain ⟨ws, r2, p2, _⟩ := I.list sb
        have l1 := rpA_len ra r1
        have l2 := rpA_len rb r2
        exact RcNeAt.lists_lengths p1.isList p2.isList (by rw [List.size_toArray, List.size_toArray, l1, l2]; simpa using h) (by omega) X.prog X.w _ _ ⟨.bl _, H, I, rfl, q.same sm (.bl _)⟩
      · cases e2
      · exact absurd rfl (z _)
    · cases e1
    · exact absurd rfl (z _)
  · rcases hx.rp3 sm with ⟨a, xs, ds, rfl, e1, _, _⟩ | ⟨a, xs, ds, rfl, e1, sa, ra⟩ | ⟨_, z⟩
    · cases e1
    · rcases hy.rp3 sm with ⟨b, ys, es, rfl, e2, _, _⟩ | ⟨b, ys, es, rfl, e2, sb, rb⟩ | ⟨_, z⟩
      · cases e2
      · cases e1; cases e2
        cases (show v = Value.ref a from rx)
        cases (show u = Value.ref b from ry)
        obtain ⟨us, r1, p1, _⟩ := I.tuple sa
        obtain ⟨ws, r2, p2, _⟩ := I.tuple sb
        have l1 := rpA_len ra r1
        have l2 := rpA_len rb r2
        refine RcNeAt.tuples (e := fun j => PyData.eqv (p.getD j .none) (r.getD j .none)) p1 p2 (by omega) (fun j h1 h2 => ?_) X.prog X.w _ _ ⟨.bl (!frontEq p r), H, I, by rw [front_all l1 l2]; rfl, q.same sm (.bl _)⟩
        have := front_eqAt I ra rb r1 r2 h hu j (by simpa using h1) (by simpa using h2)
        simpa using this
      · exact absurd rfl (z _)
    · exact absurd rfl (z _)
end
end DL
/-! DL46: == and != of data that are the same, dicts within -/
namespace PySem.SeqAt
open AutoSeq1 (wpAny_loadPart')
open MeetsSeq MeetsSeq2 MeetsSeq3 SeqRoads2
end PySem.SeqAt
namespace DL
open PySem PySem.Spec PyProof.Rows L2
open PySem.SeqAt (EqIn EqAt)
open PySem.W (EqTree eq_tuplesT eq_listsT eq_dictsT)
end DL
/-! DL47: min and max of a list of tuples (of data alike) -/
namespace DL
open PySem PySem.Spec PyProof.Rows L2 PySem.W
end DL
/-! DL48: tuples of texts that the module holds -/
namespace DL
open PySem PySem.Spec PyProof.Rows L2
end DL
namespace DL
open PySem PySem.Spec PyProof.Rows L2
end DL
/-! DL49: methods of tuples, dicts with tuple keys -/
namespace DL
open PySem PySem.Spec PyProof.Rows L2
variable {Wx : WX}
section
variable {K : KW} {F H F' H' : Hp} {σ σ' : SS} {ρ ρ' : List Sl} {P : Nat → Prop}
/-! d[k] = v, k a tuple -/
def dTKey (f : M Rs) : M (D × NK) := bd f fun r => bd (look r) fun d => opt ((tkOf d).map fun k => (d, k))
def dPutT (i : Nat) (fi fe : M Rs) : DS := fun ρ => match bd fe frz ρ with
  | .bad => .bad none
  | .ok dv ρ1 => match ρ1[i]? with
    | some (.ow _) => match dTKey fi ρ1 with
      | .bad => .bad none
      | .ok k ρ2 => match ρ2[i]? with
        | some (.ow (.dict ds)) => if isK ds = false ∧ ds.length ≤ sizeLine then .nx (ρ2.set i (.ow (.dict (dputT k.2 dv ds)))) else .bad none
        | _ => .bad none
    | _ => .bad none
def tgPutT (K : KW) : TSet := fun o i v H Q => ∃ F a ds di k dv, Same F H ∧ F a = none ∧ o = .ref a ∧ ObT K F H a ds ∧ Rp K F i di ∧ tkOf di = some k ∧ Rp K F v dv ∧ ds.length ≤ sizeLine ∧ ∀ o', Ob K F (upd H a o') a (.dict (dputT k dv ds)) → Q (upd H a o')
theorem rawX_ok {P : Program} {w : World} {H : Hp} {h : Heap} {a : Addr} {xs : XS} (r : RawX w a xs h) : ObjOk P w H h a (dX w a xs) := by
  refine ⟨r, ?_, fun h1 h2 r1 f => ?_⟩
  · obtain ⟨_, _, _, us, _, o, es, ep, h1, _⟩ := r
    exact ⟨o, h1⟩
  · obtain ⟨z1, z2, z3, us, pr, o, es, ep, g1, g2⟩ := r1
    exact ⟨z1, z2, z3, us, pr, o, es, ep, f o g1, g2⟩
theorem putT_ok {X : Cx} (hu : X.A.units + 9 < cLine) : PSet X (tgPutT X.kw) := by
  intro pins s σ H o i v ov iv u Q I ro ri rv ⟨F, a, ds, di, k, dv, sm, fn, eo, ob, hi, ek, rp, hlen, q⟩
  subst eo
  cases ro
  obtain ⟨xs, es, e1, r0, r1, rfl⟩ := ob
  obtain ⟨b, ks, rfl, rfl, hk, rb, his, hdep⟩ := Vw.tkey I sm (.inl hi) ek ri
  have e1r : Rd H a (dX X.w a xs) := .inl e1
  obtain ⟨us, pr, dd, hsm, hz⟩ := rawX_get I sm e1r r0
  obtain ⟨⟨hz0, h80, _⟩, _⟩ := e1r.ok I.hok
  refine wpAny_setItem_heap (hsz := hz) (knd := nestedKind X.prog X.w) (nk_room hu) his dd fun h' dd' sb => ?_
  obtain ⟨es', t1, t2, t3⟩ := tag_put hk rb rp r0 r1
  have mu : Mut (H a) := by rw [e1]; trivial
  have hl : xs.length + 1 ≤ sizeLine := by
    have : (tagT (xs.map (·.1)) es).length = xs.length + 1 := by
      unfold tagT
      rw [List.length_cons, List.length_zip, List.length_map, List.length_map, ← r1.length, List.length_map]; omega
    omega
  have hq : ∃ q, h'.get? a = some q := let ⟨q, _, _, hq, _⟩ := dd'; ⟨q, hq⟩
  refine ⟨upd H a (dX X.w a (putX xs k b v)), d_write (t' := s.toks + _) I mu sb hq ?_, q _ (.inr ⟨_, es', upd_same, t1, t2, t3⟩)⟩
  obtain ⟨oo, eso, epo, h1, h2, h3, h4, _, h5⟩ := dd'
  exact rawX_ok ⟨Nat.le_trans (putX_len ..) hl, putX_dep h80 hdep, hsm, _, store_val rv pr, oo, eso, epo, h1, h2, h3, h4, h5⟩
theorem tkey_ok {f : M Rs} {k : D × NK} (h : dTKey f ρ = .ok k ρ') : ∃ r ρ1, f ρ = .ok r ρ1 ∧ tkOf k.1 = some k.2 ∧ ∀ F' H' v, Sta K F' H' σ ρ1 → RsR K H F' H' σ ρ1 v r → ρ' = ρ1 ∧ Rp K F' v k.1 := by
  obtain ⟨r, ρ1, e1, e⟩ := bd_ok h
  obtain ⟨d, ρ2, e2, e⟩ := bd_ok e
  obtain ⟨e3, e4⟩ := opt_ok e
  obtain ⟨kk, ek, er⟩ := opt_map e3
  subst er
  refine ⟨r, ρ1, e1, ek, fun F' H' v s' q => ?_⟩
  obtain ⟨z, w⟩ := look_ok s' q e2
  subst z
  obtain ⟨_, _, ds, e5⟩ := tkOf_some ek
  refine ⟨e4.symm ▸ rfl, ?_⟩
  subst e5
  exact w.rp (by intro _ z; cases z) (by intro _ z; cases z)
theorem sem_putT {i : Nat} {fi fe : M Rs} : ∀ D σ H, tSemS K Wx P (dPutT i fi fe) D σ H → tAsg (tSem K fe) (L2.gSub (tVar i) (tSem K fi) (tgPutT K)) D σ H := fun D σ H ⟨F, ρ, s, h⟩ => by
  unfold dPutT at h
  cases e : bd fe frz ρ with
  | bad => rw [e] at h; exact h.elim
  | ok dv ρ1 =>
    rw [e] at h
    obtain ⟨r, ρ0, e1, e2⟩ := bd_ok e
    simp only at h
    cases q0 : ρ1[i]? with
    | none => simp only [q0] at h; exact h.elim
    | some sl =>
      cases sl with
      | em => simp only [q0] at h; exact h.elim
      | fz _ => simp only [q0] at h; exact h.elim
      | lk _ => simp only [q0] at h; exact h.elim
      | ow d0 =>
        simp only [q0] at h
        cases ek : dTKey fi ρ1 with
        | bad => simp only [ek] at h; exact h.elim
        | ok k ρ2 =>
          simp only [ek] at h
          cases q1 : ρ2[i]? with
          | none => simp only [q1] at h; exact h.elim
          | some sl2 =>
            cases sl2 with
            | em => simp only [q1] at h; exact h.elim
            | fz _ => simp only [q1] at h; exact h.elim
            | lk _ => simp only [q1] at h; exact h.elim
            | ow d =>
              cases d with
              | dict ds =>
                simp only [q1] at h
                by_cases hg : isK ds = false ∧ ds.length ≤ sizeLine
                · rw [if_pos hg] at h
                  refine ⟨F, ρ, r, ρ0, s, e1, fun F1 H1 v x1 q => ?_⟩
                  obtain ⟨F2, x2, rp⟩ := frz_ok x1 q e2
                  obtain ⟨a, ea, _, _⟩ := x2.st.sl i _ q0
                  obtain ⟨rk, ρ3, e3, ekk, hk⟩ := tkey_ok (K := K) (σ := σ) (H := H1) ek
                  refine ⟨.ref a, ea, F2, ρ1, rk, ρ3, x2.st, e3, fun F3 H3 w x3 q3 => ?_⟩
                  obtain ⟨z, ew⟩ := hk F3 H3 w x3.st q3
                  subst z
                  obtain ⟨b, eb, hf, ho⟩ := x3.st.sl i _ q1
                  rw [ea] at eb; cases eb
                  exact ⟨F3, a, ds, k.1, k.2, dv, x3.st.le, hf, rfl, ho.asT hg.1, ew, ekk, rp.mono x3.fr, hg.2, fun o' ob => h F3 _ σ ((x2.trans x3).updSlot ea q1 ob) Prot.refl⟩
                · rw [if_neg hg] at h; exact h.elim
              | _ => simp only [q1] at h; exact h.elim
theorem sputT {X : Cx} {o e ie : Expr} {fi fe : M Rs} {pos tpos : Pos} {i : Nat} (hu : X.A.units + 9 < cLine) (ho : PE X o (tVar i)) (hi : PE X ie (tSem X.kw fi)) (he : PE X e (tSem X.kw fe))
    (ha : ∀ v, assign (.Subscript o ie tpos) X.env v = (do
      let ov ← holding [v] (eval o X.env)
      let iv ← holding [v, ov] (eval ie X.env)
      standAt tpos
      holding [v, ov, iv] (setItem ov iv v)
      release [v, ov, iv] []) := by intro _; rfl)
    (hs : swapsWithSole [.Subscript o ie tpos] e pos.line X.env = pure false := by rfl) (hw : swappedStores [.Subscript o ie tpos] e X.env = pure none := by rfl)
    (h1 : (assignEach [.Subscript o ie tpos] X.env).map (·.2) = [assign (.Subscript o ie tpos) X.env] := by rfl) : PS X (.Assign [.Subscript o ie tpos] e pos) (tSemS X.kw Wx P (dPutT i fi fe)) := psWeak (ps_asg he (pg_sub ho hi (putT_ok hu) ha) hs hw h1) sem_putT
/-! a dict that is to get tuples as keys -/
def dNewT : M Rs := pr (.ow (.dict (tagT [] [])))
def tDNewX (w : World) : TE := fun _ H Q => ∀ p, H p = none → Q (.ref p) (upd H p (dX w p []))
theorem pe_dnewX {X : Cx} {pos : Pos} : PE X (.Dict [] [] pos) (tDNewX X.w) := ⟨fun pins s σ H Q I h =>
  wpAny_Dict_empty ⟨.ref s.heap.objs.size, _, I.laid (a := s.heap.objs.size) (o := dX X.w s.heap.objs.size []) (t' := s.toks) (fun _ _ q => Heap.get?_push_of_some _ q) (Nat.le_refl _)
    (rawX_ok ⟨Nat.zero_le _, fun _ h => by simp at h, beq_eq_false_iff_ne.mpr (Ne.symm (Nat.ne_of_lt I.big)), [], .nil, _, #[], 0, Heap.get?_push_size _ rfl, ⟨rfl, rfl, rfl⟩, rfl, rfl, List.nodup_nil⟩), rfl, h _ (I.hok.fresh (Nat.le_refl _))⟩⟩
theorem sem_newT : ∀ σ H Q, tSem K dNewT σ H Q → tDNewX K.w σ H Q := fun σ H Q ⟨F, ρ, res, ρ', s, e, k⟩ p hp => by
  obtain ⟨e3, e4⟩ := pr_ok e
  subst e3; subst e4
  have x0 : Ext K F H σ ρ' F (upd H p (dX K.w p [])) σ ρ' := s.grow ⟨Same.refl _, s.le.trans (same_upd hp), same_upd hp, fun _ _ e => e⟩
  have nh : ∀ i, ¬ HdAt σ ρ' i p := fun i z => by
    obtain ⟨_, d, o⟩ := s.held z
    exact o.ne hp
  exact k F _ _ x0 ⟨p, rfl, hp, s.le.free hp, .inr ⟨[], [], upd_same, .nil, .nil, rfl⟩, nh⟩
theorem ednT {X : Cx} {pos : Pos} : PE X (.Dict [] [] pos) (tSem X.kw dNewT) := peWeak pe_dnewX sem_newT
end
end DL
/-! DL50: dicts with tuple keys: sorted(d), list(d), dict(pairs) -/
namespace DL
open PySem PySem.Spec PyProof.Rows L2
end DL
/-! DL51: list.count, list.remove of data -/
namespace DL
open PySem PySem.Spec PyProof.Rows L2
end DL
/-! DL52: a, b, c, d = x, y, z, w: four names through a tuple -/
namespace DL
open PySem PySem.Spec PyProof.Rows L2
variable {Wx : WX}
section
variable {K : KW} {F H F' H' : Hp} {σ σ' : SS} {ρ ρ' : List Sl} {P : Nat → Prop}
theorem RsA.laid {H₀ : Hp} {vs : List V} {rs : List Rs} {p : Addr} {o : HO} (h : RsA K H₀ F H σ ρ vs rs) (n : H p = none) : RsA K H₀ F (upd H p o) σ ρ vs rs := by
  refine ⟨h.len, fun i w s h1 h2 => ?_, h.dj⟩
  have q := h.at_ i w s h1 h2
  cases s with
  | fz d => exact q
  | nm i => exact q
  | ow d =>
    obtain ⟨a, e, h0, hf, ho, hn⟩ := q
    obtain ⟨ob, eo⟩ := ho.some
    have hne : a ≠ p := fun z => by rw [z, n] at eo; cases eo
    exact ⟨a, e, h0, hf, ho.mono (Same.refl _) (upd_ne hne), hn⟩
end
end DL
/-! DL53: sorted(xs, key=f), f a def of the program -/
namespace DL
open PySem PySem.Spec PyProof.Rows L2
end DL
/-! DL54: list(text) -/
namespace DL
open PySem PySem.Spec PyProof.Rows L2
end DL
set_option maxHeartbeats 4000000
/-! DL55: tuple * int -/
namespace DL
open PySem PySem.Spec PyProof.Rows L2
end DL
/-! DL56: defs that may raise -/
namespace DL
open PySem PySem.Spec PyProof.Rows L2
inductive RX where
  | ok (r : Rs) (ρ : List Sl) | bad (x : Option (Xn × List Sl))
abbrev MX := List Sl → RX
end DL
/-! DL57: raise, try .. except -/
namespace DL
open PySem PySem.Spec PyProof.Rows L2
/-! ### try -/
end DL
/-! DL58: own exception classes by their look in the fragment -/
namespace DL
open PySem PySem.Spec PyProof.Rows L2
end DL
/-! DL59: texts split and joined -/
namespace DL
open PySem PySem.Spec PyProof.Rows L2
def gSplit : D → List D → Option Rs
  | .str a, [.str b] => if (b.length == 0) = false ∧ a.length + 2 ≤ sizeLine then some (.ow (.list ((Txt.split a b).map .str))) else none
  | _, _ => none
theorem rpA_str {K : KW} {F : Hp} : ∀ l : List Str, RpA K F (l.map V.str) (l.map PyData.str)
  | [] => .nil
  | c :: l => .cons (.str _) (rpA_str l)
section
variable {X : Cx}
theorem m_split : MtR X "str.split" (rGM X.kw gSplit) := by
  intro pins s σ H x xs v us Q I rx rxs ⟨F, dx, ds, res, sm, hx, hxs, e, q⟩
  unfold gSplit at e
  split at e
  · split at e
    case isFalse => cases e
    case isTrue hs =>
      cases e
      obtain ⟨y, rfl, hy⟩ := hxs.one
      have e1 := hx.str
      have e2 := hy.str
      subst e1 e2
      exact mt_split pins s σ H _ _ v us Q I rx rxs ⟨_, _, rfl, rfl, hs.1, hs.2, fun p hp => q.lst sm (rpA_str _) hp⟩
  · cases e
end
/-! a call without arguments -/
theorem semA_nil {K : KW} {σ : L2.St} {H : Hp} {Q : List V → Hp → Prop} (h : tSemA K dNil σ H Q) : Q [] H := by
  obtain ⟨F2, ρ2, rs, ρ3, s2, e2, k2⟩ := h
  cases e2
  exact k2 F2 H [] (Ext.refl s2) ⟨rfl, fun i v r h => by simp at h, fun i j a d e h => by simp at h⟩
theorem ecall0 {X : Cx} {k : Nat} {f : Addr} {fd : FuncData} {sem : M Rs} {x : Str} {p pos : Pos} (G : FnOk X.prog X.w X.kw X.mg X.base CX0 k f fd [] (spD X.kw 0 sem)) (hr : Room k X.A) (hg : Gl X x) (hm : X.mg x = some (.ref f)) (hk : PySem.W.keepIn X.kw (.ref f) = true)
    (hb : Binds X.kw fd [] []) (hdb : (x == ("__debug__" : Str)) = false := by decide) :
    PE X (.Call (.Name x p) [] [] pos) (tSem X.kw (dCall [] sem dNil)) := by
  refine peWeak (pe_call0 G hr hg hm hk hb .nil pass0 hdb) ?_
  intro σ H Q h
  have h2 : tCall (spD X.kw 0 sem) [] E0 (tSemA X.kw dNil) σ H Q := sem_call (n := 0) rfl σ H Q h
  exact semA_nil h2
end DL
/-! TL: typed readings of defs over DL: modes of slots, values told by Lean functions -/
namespace TL
open PySem L2 DL
inductive Ms where
  | any | fz (d : D) | ow (d : D) | lk (d : D) | rd (d : D)
def Mo : Ms → Sl → Prop
  | .any, _ => True
  | .fz d, s => s = .fz d
  | .ow d, s => s = .ow d
  | .lk d, s => s = .lk d
  | .rd d, s => s = .fz d ∨ s = .ow d ∨ s = .lk d
def Ec : List Ms → List Sl → Prop
  | [], [] => True
  | m :: E, s :: ρ => Mo m s ∧ Ec E ρ
  | _, _ => False
theorem Ec.len : ∀ {E : List Ms} {ρ : List Sl}, Ec E ρ → E.length = ρ.length
  | [], [], _ => rfl
  | _ :: _, _ :: _, h => by rw [List.length_cons, List.length_cons, Ec.len h.2]
  | [], _ :: _, h => h.elim
  | _ :: _, [], h => h.elim
theorem Ec.get : ∀ {E : List Ms} {ρ : List Sl} {i : Nat} {m : Ms}, Ec E ρ → E[i]? = some m → ∃ s, ρ[i]? = some s ∧ Mo m s
  | [], [], _, _, _, e => by simp at e
  | [], _ :: _, _, _, h, _ => h.elim
  | _ :: _, [], _, _, h, _ => h.elim
  | _ :: _, s :: _, 0, _, h, e => by simp at e; subst e; exact ⟨s, by simp, h.1⟩
  | _ :: _, _ :: _, i + 1, _, h, e => by
    obtain ⟨s, e1, e2⟩ := Ec.get (i := i) h.2 (by simpa using e)
    exact ⟨s, by simpa using e1, e2⟩
theorem Ec.set : ∀ {E : List Ms} {ρ : List Sl} {m : Ms} {s : Sl} (i : Nat), Ec E ρ → Mo m s → Ec (E.set i m) (ρ.set i s)
  | [], [], _, _, _, _, _ => trivial
  | [], _ :: _, _, _, _, h, _ => h.elim
  | _ :: _, [], _, _, _, h, _ => h.elim
  | _ :: _, _ :: _, _, _, 0, h, q => ⟨q, h.2⟩
  | _ :: _, _ :: _, _, _, i + 1, h, q => ⟨h.1, Ec.set i h.2 q⟩
theorem Ec.app : ∀ {E E' : List Ms} {ρ ρ' : List Sl}, Ec E ρ → Ec E' ρ' → Ec (E ++ E') (ρ ++ ρ')
  | [], _, [], _, _, h => h
  | [], _, _ :: _, _, h, _ => h.elim
  | _ :: _, _, [], _, h, _ => h.elim
  | _ :: _, _, _ :: _, _, h, q => ⟨h.1, Ec.app h.2 q⟩
theorem Ec.anys : ∀ n, Ec (List.replicate n .any) (List.replicate n .em)
  | 0 => trivial
  | n + 1 => ⟨trivial, Ec.anys n⟩
/-- less is known -/
def Lm : Ms → Ms → Prop
  | _, .any => True
  | .fz d, .fz e => d = e
  | .ow d, .ow e => d = e
  | .lk d, .lk e => d = e
  | .rd d, .rd e => d = e
  | .fz d, .rd e => d = e
  | .ow d, .rd e => d = e
  | .lk d, .rd e => d = e
  | _, _ => False
def Le : List Ms → List Ms → Prop
  | [], [] => True
  | m :: E, n :: F => Lm m n ∧ Le E F
  | _, _ => False
theorem Lm.mo {m n : Ms} {s : Sl} (h : Lm m n) (q : Mo m s) : Mo n s := by
  cases m <;> cases n <;> simp only [Lm, Mo] at h q ⊢ <;> first | trivial | (subst h; simp [q]) | (subst h; exact q) | exact h.elim | trivial
theorem Le.ec : ∀ {E F : List Ms} {ρ : List Sl}, Le E F → Ec E ρ → Ec F ρ
  | [], [], _, _, q => q
  | _ :: _, _ :: _, _ :: _, h, q => ⟨h.1.mo q.1, Le.ec h.2 q.2⟩
  | _ :: _, _ :: _, [], _, q => q.elim
  | [], _ :: _, _, h, _ => h.elim
  | _ :: _, [], _, h, _ => h.elim
theorem leT {p : Prop} (h : p := by repeat (first | exact True.intro | exact rfl | apply And.intro)) : p := h
theorem set_self' {α : Type} : ∀ {l : List α} {i : Nat} {a : α}, l[i]? = some a → l.set i a = l
  | [], _, _, h => by simp at h
  | x :: xs, 0, a, h => by simp at h; subst h; rfl
  | x :: xs, i + 1, a, h => by rw [List.set_cons_succ, set_self' (by simpa using h)]
theorem Ec.setR {E : List Ms} {ρ : List Sl} {i : Nat} {m : Ms} {s : Sl} (h : Ec E ρ) (e : E[i]? = some m) (q : Mo m s) : Ec E (ρ.set i s) := by
  have := h.set i q
  rwa [set_self' e] at this
theorem ltT {p : Prop} (h : p := by first | decide | exact of_decide_eq_true rfl) : p := h
/-- what kind of result: for good, new, either, what a read slot holds, what an owned slot holds -/
inductive Kd where
  | val | new | vn | nam (i : Nat) | own (i : Nat)
def Kr : Kd → D → Rs → Prop
  | .val, d, r => r = .fz d
  | .new, d, r => r = .ow d
  | .vn, d, r => r = .fz d ∨ r = .ow d
  | .nam i, d, r => r = .fz d ∨ r = .nm i
  | .own i, _, r => r = .nm i
def RdM : Option Ms → D → Prop
  | some (.fz e), d => e = d
  | some (.ow e), d => e = d
  | some (.lk e), d => e = d
  | some (.rd e), d => e = d
  | _, _ => False
def RdR : Option Ms → D → Prop
  | some (.fz e), d => e = d
  | some (.rd e), d => e = d
  | _, _ => False
/-- the result still reads d -/
def Rdk : Kd → D → List Ms → Prop
  | .nam i, d, E => RdR E[i]? d
  | .own i, d, E => RdM E[i]? d
  | _, _, _ => True
theorem RdR.m {o : Option Ms} {d : D} (h : RdR o d) : RdM o d := by
  cases o with
  | none => exact h
  | some m => cases m <;> first | exact h | exact h.elim
theorem Ec.rd {E : List Ms} {ρ : List Sl} {i : Nat} {d : D} (h : Ec E ρ) (q : RdM E[i]? d) : ρ[i]? = some (.fz d) ∨ ρ[i]? = some (.ow d) ∨ ρ[i]? = some (.lk d) := by
  cases e : E[i]? with
  | none => rw [e] at q; exact q.elim
  | some m =>
    rw [e] at q
    obtain ⟨s, e1, e2⟩ := h.get e
    cases m with
    | any => exact q.elim
    | fz d' => have q : d' = d := q; subst q; have e2 : s = .fz d' := e2; subst e2; exact .inl e1
    | ow d' => have q : d' = d := q; subst q; have e2 : s = .ow d' := e2; subst e2; exact .inr (.inl e1)
    | lk d' => have q : d' = d := q; subst q; have e2 : s = .lk d' := e2; subst e2; exact .inr (.inr e1)
    | rd d' =>
      have q : d' = d := q; subst q
      rcases e2 with z | z | z <;> subst z
      · exact .inl e1
      · exact .inr (.inl e1)
      · exact .inr (.inr e1)
theorem look_k {k : Kd} {d : D} {r : Rs} {E : List Ms} {ρ : List Sl} (h : Kr k d r) (q : Rdk k d E) (e : Ec E ρ) : look r ρ = .ok d ρ := by
  have nm : ∀ i, RdM E[i]? d → look (.nm i) ρ = .ok d ρ := fun i q => by
    unfold look
    rcases e.rd q with z | z | z <;> simp only [z]
  cases k with
  | val => have h : r = .fz d := h; subst h; rfl
  | new => have h : r = .ow d := h; subst h; rfl
  | vn => rcases h with h | h <;> subst h <;> rfl
  | nam i => rcases h with h | h <;> subst h <;> first | rfl | exact nm i (RdR.m q)
  | own i => have h : r = .nm i := h; subst h; exact nm i q
/-- a slot is frozen -/
def frzE : Kd → D → List Ms → List Ms
  | .own i, d, E => E.set i (.fz d)
  | _, _, E => E
theorem frz_k {k : Kd} {d : D} {r : Rs} {E : List Ms} {ρ : List Sl} (h : Kr k d r) (q : Rdk k d E) (e : Ec E ρ) : ∃ ρ', frz r ρ = .ok d ρ' ∧ Ec (frzE k d E) ρ' := by
  cases k with
  | val => have h : r = .fz d := h; subst h; exact ⟨ρ, rfl, e⟩
  | new => have h : r = .ow d := h; subst h; exact ⟨ρ, rfl, e⟩
  | vn => rcases h with h | h <;> subst h <;> exact ⟨ρ, rfl, e⟩
  | nam i =>
    have q : RdR E[i]? d := q
    have hz : Ec E (ρ.set i (.fz d)) := by
      cases em : E[i]? with
      | none => rw [em] at q; exact q.elim
      | some m =>
        rw [em] at q
        cases m with
        | fz d' => have q : d' = d := q; subst q; exact e.setR em rfl
        | rd d' => have q : d' = d := q; subst q; exact e.setR em (.inl rfl)
        | _ => exact q.elim
    rcases h with h | h <;> subst h
    · exact ⟨ρ, rfl, e⟩
    · unfold frz
      rcases e.rd q.m with z | z | z <;> simp only [z]
      · exact ⟨ρ, rfl, e⟩
      · exact ⟨_, rfl, hz⟩
      · exact ⟨_, rfl, hz⟩
  | own i =>
    have h : r = .nm i := h; subst h
    have hz : Ec (E.set i (.fz d)) (ρ.set i (.fz d)) := e.set i rfl
    unfold frz
    rcases e.rd q with z | z | z <;> simp only [z]
    · exact ⟨ρ, rfl, by rwa [set_self' z] at hz⟩
    · exact ⟨_, rfl, hz⟩
    · exact ⟨_, rfl, hz⟩
theorem RdM.set {E : List Ms} {i j : Nat} {d d' : D} (q : RdM E[j]? d') (h : RdM E[i]? d) : RdM (E.set i (.fz d))[j]? d' := by
  by_cases e : i = j
  · subst e
    rcases Nat.lt_or_ge i E.length with z | z
    · rw [List.getElem?_set_self z]
      cases em : E[i]? with
      | none => rw [em] at q; exact q.elim
      | some m =>
        rw [em] at q h
        cases m <;> first | exact q.elim | (have q : _ = d' := q; have h : _ = d := h; subst q; subst h; rfl)
    · rw [List.getElem?_eq_none z] at q; exact q.elim
  · rwa [List.getElem?_set_ne e]
theorem RdR.set {E : List Ms} {i j : Nat} {d d' : D} (q : RdR E[j]? d') (h : RdM E[i]? d) : RdR (E.set i (.fz d))[j]? d' := by
  by_cases e : i = j
  · subst e
    rcases Nat.lt_or_ge i E.length with z | z
    · rw [List.getElem?_set_self z]
      cases em : E[i]? with
      | none => rw [em] at q; exact q.elim
      | some m =>
        rw [em] at q h
        cases m <;> first | exact q.elim | (have q : _ = d' := q; have h : _ = d := h; subst q; subst h; rfl)
    · rw [List.getElem?_eq_none z] at q; exact q.elim
  · rwa [List.getElem?_set_ne e]
theorem Rdk.frz {k k' : Kd} {d d' : D} {E : List Ms} (q : Rdk k d E) (h : Rdk k' d' E) : Rdk k d (frzE k' d' E) := by
  cases k' with
  | own i =>
    cases k with
    | nam j => exact RdR.set q h
    | own j => exact RdM.set q h
    | _ => trivial
  | _ => exact q
/-! ### expressions -/
def Ev (E : List Ms) (m : M Rs) (k : Kd) (d : D) (E' : List Ms) : Prop := Rdk k d E' ∧ ∀ ρ, Ec E ρ → ∃ r ρ', m ρ = .ok r ρ' ∧ Kr k d r ∧ Ec E' ρ'
def KrA : List Kd → List D → List Rs → Prop
  | [], [], [] => True
  | k :: ks, d :: ds, r :: rs => Kr k d r ∧ KrA ks ds rs
  | _, _, _ => False
def RdkA : List Kd → List D → List Ms → Prop
  | [], [], _ => True
  | k :: ks, d :: ds, E => Rdk k d E ∧ RdkA ks ds E
  | _, _, _ => False
def Ea (E : List Ms) (f : M (List Rs)) (ks : List Kd) (ds : List D) (E' : List Ms) : Prop := ∀ ρ, Ec E ρ → ∃ rs ρ', f ρ = .ok rs ρ' ∧ KrA ks ds rs ∧ Ec E' ρ'
def Tj (E : List Ms) (t : M Bool) (b : Bool) (E' : List Ms) : Prop := ∀ ρ, Ec E ρ → ∃ ρ', t ρ = .ok b ρ' ∧ Ec E' ρ'
theorem bd_eq {α β : Type} {m : M α} {k : α → M β} {ρ ρ1 : List Sl} {a : α} (h : m ρ = .ok a ρ1) : bd m k ρ = k a ρ1 := by unfold bd; rw [h]
theorem opt_eq {α : Type} {o : Option α} {ρ : List Sl} {a : α} (h : o = some a) : opt o ρ = .ok a ρ := by unfold opt; rw [h]
theorem lookA_k : ∀ {ks : List Kd} {ds : List D} {rs : List Rs} {E : List Ms} {ρ : List Sl}, KrA ks ds rs → RdkA ks ds E → Ec E ρ → lookA rs ρ = .ok ds ρ
  | [], [], [], _, _, _, _, _ => rfl
  | k :: ks, d :: ds, r :: rs, _, _, h, q, e => by
    unfold lookA
    rw [bd_eq (look_k h.1 q.1 e), bd_eq (lookA_k h.2 q.2 e)]; rfl
  | [], [], _ :: _, _, _, h, _, _ => h.elim
  | [], _ :: _, _, _, _, h, _, _ => h.elim
  | _ :: _, [], _, _, _, h, _, _ => h.elim
  | _ :: _, _ :: _, [], _, _, h, _, _ => h.elim
def frzEA : List Kd → List D → List Ms → List Ms
  | k :: ks, d :: ds, E => frzEA ks ds (frzE k d E)
  | _, _, E => E
theorem RdkA.frz {k' : Kd} {d' : D} {E : List Ms} (h : Rdk k' d' E) : ∀ {ks : List Kd} {ds : List D}, RdkA ks ds E → RdkA ks ds (frzE k' d' E)
  | [], [], _ => trivial
  | _ :: _, _ :: _, q => ⟨Rdk.frz q.1 h, RdkA.frz h q.2⟩
  | [], _ :: _, q => q.elim
  | _ :: _, [], q => q.elim
theorem frzA_k : ∀ {ks : List Kd} {ds : List D} {rs : List Rs} {E : List Ms} {ρ : List Sl}, KrA ks ds rs → RdkA ks ds E → Ec E ρ → ∃ ρ', frzA rs ρ = .ok ds ρ' ∧ Ec (frzEA ks ds E) ρ'
  | [], [], [], _, ρ, _, _, e => ⟨ρ, rfl, e⟩
  | k :: ks, d :: ds, r :: rs, _, _, h, q, e => by
    obtain ⟨ρ1, e1, e2⟩ := frz_k h.1 q.1 e
    obtain ⟨ρ2, e3, e4⟩ := frzA_k h.2 (RdkA.frz q.1 q.2) e2
    refine ⟨ρ2, ?_, e4⟩
    unfold frzA
    rw [bd_eq e1, bd_eq e3]; rfl
  | [], [], _ :: _, _, _, h, _, _ => h.elim
  | [], _ :: _, _, _, _, h, _, _ => h.elim
  | _ :: _, [], _, _, _, h, _, _ => h.elim
  | _ :: _, _ :: _, [], _, _, h, _, _ => h.elim
theorem rdT {p : Prop} (h : p := by repeat (first | exact True.intro | exact rfl | apply And.intro)) : p := h
section
variable {E E1 E2 E3 : List Ms} {m a b c : M Rs} {k ka kb kc : Kd} {d da db dc : D} {i j : Nat} {f : M (List Rs)} {ks : List Kd} {ds : List D}
theorem ev_C : Ev E (dC d) .val d E := ⟨trivial, fun ρ h => ⟨_, ρ, rfl, rfl, h⟩⟩
theorem ev_fz (h : E[i]? = some (.fz d)) : Ev E (dVar i) .val d E := ⟨trivial, fun ρ e => by
  obtain ⟨s, e1, e2⟩ := e.get h
  have e2 : s = .fz d := e2; subst e2
  exact ⟨_, ρ, by unfold dVar; rw [e1], rfl, e⟩⟩
theorem ev_rd (h : E[i]? = some (.rd d)) : Ev E (dVar i) (.nam i) d E := ⟨by show RdR E[i]? d; rw [h]; rfl, fun ρ e => by
  obtain ⟨s, e1, e2⟩ := e.get h
  rcases e2 with e2 | e2 | e2 <;> subst e2
  · exact ⟨_, ρ, by unfold dVar; rw [e1], .inl rfl, e⟩
  · exact ⟨_, ρ, by unfold dVar; rw [e1], .inr rfl, e⟩
  · exact ⟨_, ρ, by unfold dVar; rw [e1], .inr rfl, e⟩⟩
theorem ev_ow (h : E[i]? = some (.ow d)) : Ev E (dVar i) (.own i) d E := ⟨by show RdM E[i]? d; rw [h]; rfl, fun ρ e => by
  obtain ⟨s, e1, e2⟩ := e.get h
  have e2 : s = .ow d := e2; subst e2
  exact ⟨_, ρ, by unfold dVar; rw [e1], rfl, e⟩⟩
/-- for good or new: what is made of it -/
def Rk : Rs → Kd → D → Prop
  | .fz d, .val, e => e = d
  | .ow d, .new, e => e = d
  | _, _, _ => False
theorem Rk.kr {r : Rs} (h : Rk r k d) : Kr k d r ∧ ∀ E, Rdk k d E := by
  cases r with
  | fz e => cases k <;> first | exact h.elim | (have h : d = e := h; subst h; exact ⟨rfl, fun _ => trivial⟩)
  | ow e => cases k <;> first | exact h.elim | (have h : d = e := h; subst h; exact ⟨rfl, fun _ => trivial⟩)
  | nm _ => cases k <;> exact h.elim
theorem ev_op2 {g : G2} {r : Rs} (ha : Ev E a ka da E1) (hb : Ev E1 b kb db E2) (hg : g da db = some r) (hk : Rk r k d) (hr : Rdk ka da E2 := by repeat (first | exact True.intro | exact rfl | apply And.intro)) : Ev E (dOp2 g a b) k d E2 := ⟨hk.kr.2 _, fun ρ e => by
  obtain ⟨ra, ρ1, e1, q1, c1⟩ := ha.2 ρ e
  obtain ⟨rb, ρ2, e2, q2, c2⟩ := hb.2 ρ1 c1
  refine ⟨r, ρ2, ?_, hk.kr.1, c2⟩
  unfold dOp2
  rw [bd_eq e1, bd_eq e2, bd_eq (look_k q1 hr c2), bd_eq (look_k q2 hb.1 c2)]
  exact opt_eq hg⟩
theorem ev_cmp {g : D → D → Option Bool} {p : Bool} (ha : Ev E a ka da E1) (hb : Ev E1 b kb db E2) (hg : g da db = some p) (hr : Rdk ka da E2 := by repeat (first | exact True.intro | exact rfl | apply And.intro)) : Ev E (dOp2 (gB g) a b) .val (.bool p) E2 :=
  ev_op2 (r := .fz (.bool p)) ha hb (by unfold gB; rw [hg]; rfl) rfl hr
theorem tj_cmp {g : D → D → Option Bool} {p : Bool} (ha : Ev E a ka da E1) (hb : Ev E1 b kb db E2) (hg : g da db = some p) (hr : Rdk ka da E2 := by repeat (first | exact True.intro | exact rfl | apply And.intro)) : Tj E (dOp2T g a b) p E2 := fun ρ e => by
  obtain ⟨ra, ρ1, e1, q1, c1⟩ := ha.2 ρ e
  obtain ⟨rb, ρ2, e2, q2, c2⟩ := hb.2 ρ1 c1
  refine ⟨ρ2, ?_, c2⟩
  unfold dOp2T
  rw [bd_eq e1, bd_eq e2, bd_eq (look_k q1 hr c2), bd_eq (look_k q2 hb.1 c2)]
  exact opt_eq hg
theorem ev_op1 {g : D → Option Rs} {r : Rs} (ha : Ev E a ka da E1) (hg : g da = some r) (hk : Rk r k d) : Ev E (dOp1 g a) k d E1 := ⟨hk.kr.2 _, fun ρ e => by
  obtain ⟨ra, ρ1, e1, q1, c1⟩ := ha.2 ρ e
  refine ⟨r, ρ1, ?_, hk.kr.1, c1⟩
  unfold dOp1
  rw [bd_eq e1, bd_eq (look_k q1 ha.1 c1)]
  exact opt_eq hg⟩
theorem ea_nil : Ea E dNil [] [] E := fun ρ e => ⟨[], ρ, rfl, trivial, e⟩
theorem ea_cons (ha : Ev E a ka da E1) (hf : Ea E1 f ks ds E2) : Ea E (dCons a f) (ka :: ks) (da :: ds) E2 := fun ρ e => by
  obtain ⟨ra, ρ1, e1, q1, c1⟩ := ha.2 ρ e
  obtain ⟨rs, ρ2, e2, q2, c2⟩ := hf ρ1 c1
  refine ⟨ra :: rs, ρ2, ?_, ⟨q1, q2⟩, c2⟩
  unfold dCons
  rw [bd_eq e1, bd_eq e2]; rfl
theorem ev_tup (hf : Ea E f ks ds E1) (hr : RdkA ks ds E1 := by repeat (first | exact True.intro | exact rfl | apply And.intro)) (hl : ds.length ≤ 1000 := by first | decide | exact of_decide_eq_true rfl) : Ev E (dTup f) .val (.tuple ds) (frzEA ks ds E1) := ⟨trivial, fun ρ e => by
  obtain ⟨rs, ρ1, e1, q1, c1⟩ := hf ρ e
  obtain ⟨ρ2, e2, c2⟩ := frzA_k q1 hr c1
  refine ⟨_, ρ2, ?_, rfl, c2⟩
  unfold dTup
  rw [bd_eq e1, bd_eq e2, if_pos hl]; rfl⟩
theorem ev_lst (hf : Ea E f ks ds E1) (hr : RdkA ks ds E1 := by repeat (first | exact True.intro | exact rfl | apply And.intro)) (hl : ds.length ≤ 1000 := by first | decide | exact of_decide_eq_true rfl) : Ev E (dLst f) .new (.list ds) (frzEA ks ds E1) := ⟨trivial, fun ρ e => by
  obtain ⟨rs, ρ1, e1, q1, c1⟩ := hf ρ e
  obtain ⟨ρ2, e2, c2⟩ := frzA_k q1 hr c1
  refine ⟨_, ρ2, ?_, rfl, c2⟩
  unfold dLst
  rw [bd_eq e1, bd_eq e2, if_pos hl]; rfl⟩
theorem ev_B {g : List D → Option Rs} {r : Rs} (hf : Ea E f ks ds E1) (hg : g ds = some r) (hk : Rk r k d) (hr : RdkA ks ds E1 := by repeat (first | exact True.intro | exact rfl | apply And.intro)) : Ev E (dB g f) k d E1 := ⟨hk.kr.2 _, fun ρ e => by
  obtain ⟨rs, ρ1, e1, q1, c1⟩ := hf ρ e
  refine ⟨r, ρ1, ?_, hk.kr.1, c1⟩
  unfold dB
  rw [bd_eq e1, bd_eq (lookA_k q1 hr c1)]
  exact opt_eq hg⟩
theorem ev_B1 {g : List D → Option Rs} {r : Rs} (ha : Ev E a ka da E1) (hg : g [da] = some r) (hk : Rk r k d) : Ev E (dB g (dCons a dNil)) k d E1 := ev_B (ea_cons ha ea_nil) hg hk ⟨ha.1, trivial⟩
theorem isK_str {α : Type} {f : α → Str} {g : α → D} : ∀ {l : List α}, isK (l.map fun p => (PyData.str (f p), g p)) = true
  | [] => rfl
  | _ :: _ => rfl
theorem isK_int {α : Type} {f : α → Int} {g : α → D} : ∀ {l : List α}, isK (l.map fun p => (PyData.int (f p), g p)) = true
  | [] => rfl
  | _ :: _ => rfl
theorem ev_isi {T : Ty} (ha : Ev E a ka da E1) (ho : okTy da = true := by first | rfl | exact isK_str | exact isK_int) : Ev E (dIsi T a) .val (.bool (isT T da)) E1 := ⟨trivial, fun ρ e => by
  obtain ⟨ra, ρ1, e1, q1, c1⟩ := ha.2 ρ e
  refine ⟨_, ρ1, ?_, rfl, c1⟩
  unfold dIsi
  rw [bd_eq e1, bd_eq (look_k q1 ha.1 c1)]
  exact opt_eq (if_pos ho)⟩
/-- known for less -/
theorem Ev.le (ha : Ev E m k d E1) (hl : Le E1 E2) (hr : Rdk k d E2) : Ev E m k d E2 := ⟨hr, fun ρ e => by
  obtain ⟨r, ρ1, e1, q1, c1⟩ := ha.2 ρ e
  exact ⟨r, ρ1, e1, q1, hl.ec c1⟩⟩
theorem Tj.le {t : M Bool} {p : Bool} (ha : Tj E t p E1) (hl : Le E1 E2) : Tj E t p E2 := fun ρ e => by
  obtain ⟨ρ1, e1, c1⟩ := ha ρ e
  exact ⟨ρ1, e1, hl.ec c1⟩
theorem Ev.eq {d' : D} (ha : Ev E m k d E1) (h : d = d') : Ev E m k d' E1 := h ▸ ha
/-! tests -/
theorem tj_tru {p : Bool} (ha : Ev E a ka da E1) (h : tru da = some p) : Tj E (dTru a) p E1 := fun ρ e => by
  obtain ⟨ra, ρ1, e1, q1, c1⟩ := ha.2 ρ e
  refine ⟨ρ1, ?_, c1⟩
  unfold dTru
  rw [bd_eq e1, bd_eq (look_k q1 ha.1 c1)]
  exact opt_eq h
theorem tj_b {p : Bool} (ha : Ev E a ka (.bool p) E1) : Tj E (dTru a) p E1 := tj_tru ha rfl
theorem tj_not {t : M Bool} {p : Bool} (h : Tj E t p E1) : Tj E (dNot t) (!p) E1 := fun ρ e => by
  obtain ⟨ρ1, e1, c1⟩ := h ρ e
  refine ⟨ρ1, ?_, c1⟩
  unfold dNot
  rw [bd_eq e1]; rfl
theorem tj_and {t u : M Bool} {p q : Bool} (h : Tj E t p E1) (h2 : p = true → Tj E1 u q E1) : Tj E (dAnd t u) (p && q) E1 := fun ρ e => by
  obtain ⟨ρ1, e1, c1⟩ := h ρ e
  unfold dAnd
  rw [bd_eq e1]
  cases p with
  | false => exact ⟨ρ1, rfl, c1⟩
  | true =>
    obtain ⟨ρ2, e2, c2⟩ := h2 rfl ρ1 c1
    exact ⟨ρ2, by simpa using e2, c2⟩
theorem tj_or {t u : M Bool} {p q : Bool} (h : Tj E t p E1) (h2 : p = false → Tj E1 u q E1) : Tj E (dOr t u) (p || q) E1 := fun ρ e => by
  obtain ⟨ρ1, e1, c1⟩ := h ρ e
  unfold dOr
  rw [bd_eq e1]
  cases p with
  | true => exact ⟨ρ1, rfl, c1⟩
  | false =>
    obtain ⟨ρ2, e2, c2⟩ := h2 rfl ρ1 c1
    exact ⟨ρ2, by simpa using e2, c2⟩
/-- a choice: one kind -/
theorem ev_if {t : M Bool} {p : Bool} {α : Type} {enc : α → D} {x y : α} (ht : Tj E t p E1) (ha : p = true → Ev E1 a k (enc x) E1) (hb : p = false → Ev E1 b k (enc y) E1) (hk : ∀ d, Rdk k d E1 := by intro _; exact True.intro) : Ev E (dIfE t a b) k (enc (if p = true then x else y)) E1 := ⟨hk _, fun ρ e => by
  obtain ⟨ρ1, e1, c1⟩ := ht ρ e
  unfold dIfE
  rw [bd_eq e1]
  cases p with
  | true => obtain ⟨r, ρ2, e2, q2, c2⟩ := (ha rfl).2 ρ1 c1; exact ⟨r, ρ2, by simpa using e2, by simpa using q2, c2⟩
  | false => obtain ⟨r, ρ2, e2, q2, c2⟩ := (hb rfl).2 ρ1 c1; exact ⟨r, ρ2, by simpa using e2, by simpa using q2, c2⟩⟩
theorem tj_chain {g g' : D → D → Option Bool} {p q : Bool} (ha : Ev E a ka da E1) (hb : Ev E1 b kb db E2) (hg : g da db = some p) (hc : p = true → Ev E2 c kc dc E2) (hg' : p = true → g' db dc = some q) (hr : Rdk ka da E2 := by repeat (first | exact True.intro | exact rfl | apply And.intro)) : Tj E (dChainT g g' a b c) (p && q) E2 := fun ρ e => by
  obtain ⟨ra, ρ1, e1, q1, c1⟩ := ha.2 ρ e
  obtain ⟨rb, ρ2, e2, q2, c2⟩ := hb.2 ρ1 c1
  unfold dChainT
  rw [bd_eq e1, bd_eq e2, bd_eq (look_k q1 hr c2), bd_eq (look_k q2 hb.1 c2), bd_eq (opt_eq hg)]
  cases p with
  | false => exact ⟨ρ2, rfl, c2⟩
  | true =>
    obtain ⟨rc, ρ3, e3, q3, c3⟩ := (hc rfl).2 ρ2 c2
    refine ⟨ρ3, ?_, c3⟩
    rw [if_pos rfl, bd_eq e3, bd_eq (look_k q2 hb.1 c3), bd_eq (look_k q3 (hc rfl).1 c3)]
    exact opt_eq (by simpa using hg' rfl)
end
end TL
namespace TL
open PySem L2 DL
/-- a value that is told once -/
def Let {α β : Type} (x : α) (o : α → β) : β := o x
section
variable {E E1 E2 E3 : List Ms} {m a b c : M Rs} {k ka kb kc : Kd} {d da db dc : D} {i j : Nat} {f : M (List Rs)} {ks : List Kd} {ds : List D} {τ : Type} {P : τ → SR → Prop} {rest s s1 s2 body : DS} {v x y : τ}
def Sg (E : List Ms) (s : DS) (P : τ → SR → Prop) (v : τ) : Prop := ∀ ρ, Ec E ρ → P v (s ρ)
theorem seq_nx {ρ ρ1 : List Sl} (h : s ρ = .nx ρ1) : dSeq s rest ρ = rest ρ1 := by unfold dSeq; rw [h]
theorem sg_last (h : Sg E (dSeq s dPass) P v) : Sg E s P v := fun ρ e => by
  have h := h ρ e
  have : dSeq s dPass ρ = s ρ := by unfold dSeq dPass; cases s ρ <;> rfl
  rwa [this] at h
theorem sg_assoc (h : Sg E (dSeq s1 (dSeq s2 rest)) P v) : Sg E (dSeq (dSeq s1 s2) rest) P v := fun ρ e => by
  have h := h ρ e
  have : dSeq (dSeq s1 s2) rest ρ = dSeq s1 (dSeq s2 rest) ρ := by unfold dSeq; cases s1 ρ <;> rfl
  rwa [this]
theorem sg_skip (h : Sg E rest P v) : Sg E (dSeq dPass rest) P v := fun ρ e => by
  have h := h ρ e
  exact h
theorem sg_le (hl : Le E E1) (h : Sg E1 s P v) : Sg E s P v := fun ρ e => h ρ (hl.ec e)
/-- the slot behind a store -/
def setE (i : Nat) : Kd → D → List Ms → List Ms
  | .val, d, E => E.set i (.fz d)
  | .new, d, E => E.set i (.ow d)
  | .vn, d, E => E.set i (.rd d)
  | .nam _, d, E => E.set i (.fz d)
  | .own j, d, E => (E.set j (.fz d)).set i (.fz d)
theorem setR_k {r : Rs} {ρ : List Sl} (h : Kr k d r) (q : Rdk k d E) (e : Ec E ρ) (hi : i < E.length) : ∃ ρ', setR i r ρ = some ρ' ∧ Ec (setE i k d E) ρ' := by
  have hi' : i < ρ.length := by rw [← e.len]; exact hi
  have go : ∀ j ρ1, r = .nm j → frz (.nm j) ρ = .ok d ρ1 → setR i r ρ = some (ρ1.set i (.fz d)) := fun j ρ1 z q => by
    subst z
    unfold setR
    rw [if_pos hi']
    simp only [q]
  cases k with
  | val => have h : r = .fz d := h; subst h; exact ⟨_, setR_fz hi', e.set i rfl⟩
  | new => have h : r = .ow d := h; subst h; exact ⟨_, setR_ow hi', e.set i rfl⟩
  | vn => rcases h with h | h <;> subst h
          · exact ⟨_, setR_fz hi', e.set i (.inl rfl)⟩
          · exact ⟨_, setR_ow hi', e.set i (.inr (.inl rfl))⟩
  | nam j =>
    rcases h with h | h
    · subst h; exact ⟨_, setR_fz hi', e.set i rfl⟩
    · obtain ⟨ρ1, e1, e2⟩ := frz_k (k := .nam j) (r := .nm j) (d := d) (.inr rfl) q e
      exact ⟨_, go j ρ1 h e1, e2.set i rfl⟩
  | own j =>
    have h : r = .nm j := h
    obtain ⟨ρ1, e1, e2⟩ := frz_k (k := .own j) (r := .nm j) (d := d) rfl q e
    exact ⟨_, go j ρ1 h e1, e2.set i rfl⟩
theorem sg_set (ha : Ev E a k d E1) (h : Sg (setE i k d E1) rest P v) (hi : i < E1.length := by first | decide | exact of_decide_eq_true rfl) : Sg E (dSeq (dSet i a) rest) P v := fun ρ e => by
  obtain ⟨r, ρ1, e1, q1, c1⟩ := ha.2 ρ e
  obtain ⟨ρ2, e2, c2⟩ := setR_k q1 ha.1 c1 hi
  rw [seq_nx (ρ1 := ρ2) (by unfold dSet; simp only [e1, e2])]
  exact h ρ2 c2
theorem sg_drop (ha : Ev E a k d E1) (h : Sg E1 rest P v) : Sg E (dSeq (dDrop a) rest) P v := fun ρ e => by
  obtain ⟨r, ρ1, e1, q1, c1⟩ := ha.2 ρ e
  rw [seq_nx (ρ1 := ρ1) (by unfold dDrop; simp only [e1])]
  exact h ρ1 c1
theorem sg_if {t : M Bool} {p : Bool} (ht : Tj E t p E1) (h1 : p = true → Sg E1 (dSeq s1 rest) P x) (h2 : p = false → Sg E1 (dSeq s2 rest) P y) : Sg E (dSeq (dIf t s1 s2) rest) P (if p = true then x else y) := fun ρ e => by
  obtain ⟨ρ1, e1, c1⟩ := ht ρ e
  cases p with
  | true =>
    have : dSeq (dIf t s1 s2) rest ρ = dSeq s1 rest ρ1 := by unfold dSeq dIf; rw [e1]
    rw [this]; exact h1 rfl ρ1 c1
  | false =>
    have : dSeq (dIf t s1 s2) rest ρ = dSeq s2 rest ρ1 := by unfold dSeq dIf; rw [e1]
    rw [this]; exact h2 rfl ρ1 c1
/-- known which way -/
theorem sg_ifF {t : M Bool} {p : Bool} (ht : Tj E t p E1) (hp : p = false) (h2 : Sg E1 (dSeq s2 rest) P y) : Sg E (dSeq (dIf t s1 s2) rest) P y := fun ρ e => by
  obtain ⟨ρ1, e1, c1⟩ := ht ρ e
  subst hp
  have : dSeq (dIf t s1 s2) rest ρ = dSeq s2 rest ρ1 := by unfold dSeq dIf; rw [e1]
  rw [this]; exact h2 ρ1 c1
/-! ### the end of a def -/
def Rdb (ρ : List Sl) (i : Nat) (d : D) : Prop := ρ[i]? = some (.fz d) ∨ ρ[i]? = some (.ow d) ∨ ρ[i]? = some (.lk d)
def Rkk (n : Nat) (outs : List Ms) : Kd → D → Rs → List Sl → Prop
  | .val, d, r, ρ => r = .fz d ∨ ∃ i, r = .nm i ∧ (ρ[i]? = some (.fz d) ∨ (i < n ∧ RdR outs[i]? d ∧ Rdb ρ i d))
  | .new, d, r, ρ => r = .ow d ∨ ∃ i, r = .nm i ∧ n ≤ i ∧ ρ[i]? = some (.ow d)
  | .vn, d, r, ρ => r = .fz d ∨ r = .ow d ∨ ∃ i, r = .nm i ∧ n ≤ i ∧ n ≤ i ∧ Rdb ρ i d
  | _, _, _, _ => False
def Rt {α : Type} (n : Nat) (enc : α → D) (k : Kd) (outs : α → List Ms) (v : α) (r : Rs) (ρ : List Sl) : Prop := Rkk n (outs v) k (enc v) r ρ ∧ Ec (outs v) ρ
def Pr {α : Type} (n : Nat) (enc : α → D) (k : Kd) (outs : α → List Ms) : α → SR → Prop := fun v o => match o with
  | .rt r ρ => Rt n enc k outs v r ρ
  | .nx ρ => k = .val ∧ enc v = .none ∧ Ec (outs v) ρ
  | _ => False
/-- how a def's result may come from an expression's -/
def RetOk (n : Nat) (outs : List Ms) (E : List Ms) (d : D) : Kd → Kd → Prop
  | .val, .val => True
  | .new, .new => True
  | .val, .vn => True
  | .new, .vn => True
  | .vn, .vn => True
  | .nam i, .val => i < n ∧ RdR outs[i]? d
  | .own i, .val => i < n ∧ RdR outs[i]? d
  | .own i, .new => n ≤ i ∧ E[i]? = some (.ow d)
  | .nam i, .vn => n ≤ i
  | .own i, .vn => n ≤ i
  | _, _ => False
theorem rt_ok {n : Nat} {outs : List Ms} {ke : Kd} {r : Rs} {ρ : List Sl} (h : Kr ke d r) (q : Rdk ke d E) (e : Ec E ρ) (ho : RetOk n outs E d ke k) : Rkk n outs k d r ρ := by
  cases ke with
  | val => have h : r = .fz d := h; cases k <;> first | exact .inl h | exact ho.elim
  | new => have h : r = .ow d := h; cases k <;> first | exact .inl h | exact .inr (.inl h) | exact ho.elim
  | vn => cases k <;> first | exact ho.elim | exact h.elim .inl fun z => .inr (.inl z)
  | nam i =>
    have rd := e.rd (RdR.m q)
    cases k with
    | val => rcases h with h | h
             · exact .inl h
             · exact .inr ⟨i, h, .inr ⟨ho.1, ho.2, rd⟩⟩
    | vn => rcases h with h | h
            · exact .inl h
            · exact .inr (.inr ⟨i, h, ho, ho, rd⟩)
    | _ => exact ho.elim
  | own i =>
    have h : r = .nm i := h
    have rd := e.rd q
    cases k with
    | val => exact .inr ⟨i, h, .inr ⟨ho.1, ho.2, rd⟩⟩
    | vn => exact .inr (.inr ⟨i, h, ho, ho, rd⟩)
    | new =>
      obtain ⟨s, e1, e2⟩ := e.get ho.2
      have e2 : s = .ow d := e2; subst e2
      exact .inr ⟨i, h, ho.1, e1⟩
    | _ => exact ho.elim
theorem roT {p : Prop} (h : p := by first | exact True.intro | exact ⟨by decide, rfl⟩ | decide | exact Nat.le_of_ble_eq_true rfl) : p := h
theorem sg_ret {α : Type} {n : Nat} {enc : α → D} {outs : α → List Ms} {v : α} {ke : Kd} (ha : Ev E a ke (enc v) E1) (hl : Le E1 (outs v)) (ho : RetOk n (outs v) E1 (enc v) ke k) : Sg E (dSeq (dRet a) rest) (Pr n enc k outs) v := fun ρ e => by
  obtain ⟨r, ρ1, e1, q1, c1⟩ := ha.2 ρ e
  have : dSeq (dRet a) rest ρ = .rt r ρ1 := by unfold dSeq dRet; rw [e1]
  rw [this]
  exact ⟨rt_ok q1 ha.1 c1 ho, hl.ec c1⟩
def outM : List Bool → List Ms → List Ms
  | true :: bs, m :: E => m :: outM bs E
  | false :: bs, _ :: E => .any :: outM bs E
  | _, _ => []
theorem outM_ec : ∀ {ms : List Bool} {E : List Ms} {ρ : List Sl}, Ec E ρ → Ec (outM ms E) (outP ms ρ)
  | [], _, _, _ => by unfold outM outP; trivial
  | true :: _, [], [], _ => trivial
  | false :: _, [], [], _ => trivial
  | true :: _, _ :: _, _ :: _, h => ⟨h.1, outM_ec h.2⟩
  | false :: _, _ :: _, _ :: _, h => ⟨trivial, outM_ec h.2⟩
  | _ :: _, [], _ :: _, h => h.elim
  | _ :: _, _ :: _, [], h => h.elim
theorem ev_run {α : Type} {n N : Nat} {enc : α → D} {outs : α → List Ms} {v : α} {ms : List Bool} {ins : List Ms} (h : Sg (ins ++ List.replicate (N - ins.length) .any) body (Pr n enc k outs) v) (hk : ∀ d E, Rdk k d E := by intro _ _; exact True.intro) (hm : ms.length = n := by rfl) :
    Ev ins (runDef ms N body) k (enc v) (outM ms (outs v)) := ⟨hk _ _, fun ρ e => by
  have h := h (ρ ++ List.replicate (N - ρ.length) .em) (by rw [e.len]; exact e.app (Ec.anys _))
  unfold runDef
  generalize body (ρ ++ List.replicate (N - ρ.length) .em) = o at h
  cases o with
  | nx ρ1 => obtain ⟨e1, e2, e3⟩ := h; subst e1; rw [e2]; exact ⟨_, _, rfl, rfl, outM_ec e3⟩
  | rt r ρ1 =>
    obtain ⟨h1, h2⟩ := h
    have setd : ∀ i, RdR (outs v)[i]? (enc v) → Ec (outs v) (ρ1.set i (.fz (enc v))) := fun i q => by
      cases em : (outs v)[i]? with
      | none => rw [em] at q; exact q.elim
      | some m =>
        rw [em] at q
        cases m with
        | fz d' => have q : d' = enc v := q; subst q; exact h2.setR em rfl
        | rd d' => have q : d' = enc v := q; rw [← q]; exact h2.setR em (.inl rfl)
        | _ => exact q.elim
    cases k with
    | val =>
      rcases h1 with h1 | ⟨i, h1, q⟩
      · subst h1; exact ⟨_, _, rfl, rfl, outM_ec h2⟩
      · subst h1
        rcases q with q | ⟨q1, q2, q⟩
        · simp only [q]; exact ⟨_, _, rfl, rfl, outM_ec h2⟩
        · rcases q with q | q | q <;> simp only [q]
          · exact ⟨_, _, rfl, rfl, outM_ec h2⟩
          · rw [if_neg (by omega)]; exact ⟨_, _, rfl, rfl, outM_ec (setd i q2)⟩
          · exact ⟨_, _, rfl, rfl, outM_ec (setd i q2)⟩
    | new =>
      rcases h1 with h1 | ⟨i, h1, q1, q⟩
      · subst h1; exact ⟨_, _, rfl, rfl, outM_ec h2⟩
      · subst h1; simp only [q]; rw [if_pos (by omega)]; exact ⟨_, _, rfl, rfl, outM_ec h2⟩
    | vn =>
      have setl : ∀ i, n ≤ i → Ec (outM ms (outs v)) (outP ms (ρ1.set i (.fz (enc v)))) := fun i hi => by
        have key : ∀ {ms : List Bool} {ρ : List Sl} {i : Nat} {s : Sl}, ms.length ≤ i → outP ms (ρ.set i s) = outP ms ρ := by
          intro ms
          induction ms with
          | nil => intro ρ i s _; unfold outP; rfl
          | cons b bs ih =>
            intro ρ i s hi
            cases ρ with
            | nil => rfl
            | cons s0 ρ =>
              cases i with
              | zero => simp at hi
              | succ i => cases b <;> simp only [List.set_cons_succ, outP] <;> rw [ih (by simpa using hi)]
        rw [key (by omega)]; exact outM_ec h2
      rcases h1 with h1 | h1 | ⟨i, h1, q1, _, q⟩
      · subst h1; exact ⟨_, _, rfl, .inl rfl, outM_ec h2⟩
      · subst h1; exact ⟨_, _, rfl, .inr rfl, outM_ec h2⟩
      · subst h1
        rcases q with q | q | q <;> simp only [q]
        · exact ⟨_, _, rfl, .inl rfl, outM_ec h2⟩
        · rw [if_pos (by omega)]; exact ⟨_, _, rfl, .inr rfl, outM_ec h2⟩
        · exact ⟨_, _, rfl, .inl rfl, setl i q1⟩
    | nam i => exact h1.elim
    | own i => exact h1.elim
  | _ => exact h.elim⟩
end
end TL
namespace TL
open PySem L2 DL
inductive Lki where
  | no | sure (i : Nat) | may (i : Nat)
def LkOk : Lki → Option Nat → Prop
  | .no, l => l = none
  | .sure i, l => l = some i
  | .may i, l => l = none ∨ l = some i
def unlE : Lki → List Ms → List Ms
  | .no, E => E
  | .sure i, E => match E[i]? with
    | some (.lk d) => E.set i (.ow d)
    | _ => E
  | .may i, E => match E[i]? with
    | some (.lk d) => E.set i (.rd d)
    | _ => E
section
variable {E E1 E2 E3 : List Ms} {m a b c e : M Rs} {k ka kb kc : Kd} {d da db dc : D} {i j : Nat} {f : M (List Rs)} {ks : List Kd} {ds : List D} {τ : Type} {P : τ → SR → Prop} {rest s s1 s2 body : DS} {v x y : τ} {li : Lki} {l : Option Nat} {ρ ρ1 ρ2 : List Sl}
theorem Ec.pt (hl : E.length = ρ.length) (h : ∀ (i : Nat) (m : Ms) (s : Sl), E[i]? = some m → ρ[i]? = some s → Mo m s) : Ec E ρ := by
  induction E generalizing ρ with
  | nil => cases ρ with
    | nil => trivial
    | cons _ _ => simp at hl
  | cons m E ih => cases ρ with
    | nil => simp at hl
    | cons s ρ => exact ⟨h 0 m s (by simp) (by simp), ih (by simpa using hl) fun i m' s' e1 e2 => h (i + 1) m' s' (by simpa using e1) (by simpa using e2)⟩
theorem Ec.at (h : Ec E ρ) {m : Ms} {s : Sl} (e : E[i]? = some m) (e2 : ρ[i]? = some s) : Mo m s := by
  obtain ⟨s', e3, q⟩ := h.get e
  rw [e2] at e3; cases e3; exact q
theorem unl_k (hl : LkOk li l) (h : Ec E ρ) : Ec (unlE li E) (unl l ρ) := by
  have key : ∀ i, Ec (unlE (.sure i) E) (unl (some i) ρ) ∧ Ec (unlE (.may i) E) (unl (some i) ρ) ∧ Ec (unlE (.may i) E) ρ := fun i => by
    unfold unlE unl
    simp only
    cases em : E[i]? with
    | none =>
      have hn : ρ[i]? = none := by rw [List.getElem?_eq_none_iff] at em ⊢; rw [← h.len]; exact em
      simp only [hn]; exact ⟨h, h, h⟩
    | some m =>
      obtain ⟨s, e1, e2⟩ := h.get em
      simp only [e1]
      cases m with
      | any => cases s <;> first | exact ⟨h, h, h⟩ | exact ⟨h.setR em trivial, h.setR em trivial, h⟩
      | fz d => have e2 : s = .fz d := e2; subst e2; exact ⟨h, h, h⟩
      | ow d => have e2 : s = .ow d := e2; subst e2; exact ⟨h, h, h⟩
      | lk d =>
        have e2 : s = .lk d := e2; subst e2
        refine ⟨h.set i rfl, h.set i (.inr (.inl rfl)), ?_⟩
        have := h.set (m := .rd d) (s := .lk d) i (.inr (.inr rfl))
        rwa [set_self' e1] at this
      | rd d => rcases e2 with e2 | e2 | e2 <;> subst e2 <;> first | exact ⟨h, h, h⟩ | exact ⟨h.setR em (.inr (.inl rfl)), h.setR em (.inr (.inl rfl)), h⟩
  cases li with
  | no => have hl : l = none := hl; subst hl; exact h
  | sure i => have hl : l = some i := hl; subst hl; exact (key i).1
  | may i => rcases hl with hl | hl <;> subst hl
             · exact (key i).2.2
             · exact (key i).2.1
/-! ### what is walked -/
def Ew (E : List Ms) (w : M Wk) (ds : List D) (li : Lki) (E' : List Ms) : Prop := ∀ ρ, Ec E ρ → ∃ l ρ1, w ρ = .ok (ds, l) ρ1 ∧ LkOk li l ∧ Ec E' ρ1
theorem wkOf_eq (h : seqItems d = some ds) : wkOf l d ρ = .ok (ds, l) ρ := by unfold wkOf opt; rw [h]; rfl
theorem ew_val (ha : Ev E e .val d E1) (h : seqItems d = some ds) : Ew E (dWk e) ds .no E1 := fun ρ q => by
  obtain ⟨r, ρ1, e1, q1, c1⟩ := ha.2 ρ q
  have q1 : r = .fz d := q1; subst q1
  exact ⟨none, ρ1, by unfold dWk; rw [bd_eq e1]; exact wkOf_eq h, rfl, c1⟩
theorem ew_new (ha : Ev E e .new d E1) (h : seqItems d = some ds) : Ew E (dWk e) ds .no E1 := fun ρ q => by
  obtain ⟨r, ρ1, e1, q1, c1⟩ := ha.2 ρ q
  have q1 : r = .ow d := q1; subst q1
  exact ⟨none, ρ1, by unfold dWk; rw [bd_eq e1]; exact wkOf_eq h, rfl, c1⟩
theorem ew_nam (ha : Ev E e (.nam i) d E1) (h : seqItems d = some ds) : Ew E (dWk e) ds (.may i) E1 := fun ρ q => by
  obtain ⟨r, ρ1, e1, q1, c1⟩ := ha.2 ρ q
  have hr : RdR E1[i]? d := ha.1
  rcases q1 with q1 | q1 <;> subst q1
  · exact ⟨none, ρ1, by unfold dWk; rw [bd_eq e1]; exact wkOf_eq h, .inl rfl, c1⟩
  · have go : ∀ l ρ2, wkOf l d ρ2 = .ok (ds, l) ρ2 := fun l ρ2 => wkOf_eq h
    rcases c1.rd hr.m with z | z | z
    · exact ⟨none, ρ1, by unfold dWk; rw [bd_eq e1]; simp only [z]; exact go _ _, .inl rfl, c1⟩
    · refine ⟨some i, ρ1.set i (.lk d), by unfold dWk; rw [bd_eq e1]; simp only [z]; exact go _ _, .inr rfl, ?_⟩
      cases em : E1[i]? with
      | none => rw [em] at hr; exact hr.elim
      | some m =>
        rw [em] at hr
        obtain ⟨s', z1, z2⟩ := c1.get em
        rw [z] at z1; cases z1
        cases m with
        | fz d' => have z2 : Sl.ow d = .fz d' := z2; cases z2
        | rd d' => have hr : d' = d := hr; subst hr; exact c1.setR em (.inr (.inr rfl))
        | _ => exact hr.elim
    · exact ⟨none, ρ1, by unfold dWk; rw [bd_eq e1]; simp only [z]; exact go _ _, .inl rfl, c1⟩
theorem ew_ow (ha : Ev E e (.own i) d E1) (hi : E1[i]? = some (.ow d)) (h : seqItems d = some ds) : Ew E (dWk e) ds (.sure i) (E1.set i (.lk d)) := fun ρ q => by
  obtain ⟨r, ρ1, e1, q1, c1⟩ := ha.2 ρ q
  have q1 : r = .nm i := q1; subst q1
  obtain ⟨s, z, z2⟩ := c1.get hi
  have z2 : s = .ow d := z2; subst z2
  exact ⟨some i, ρ1.set i (.lk d), by unfold dWk; rw [bd_eq e1]; simp only [z]; exact wkOf_eq h, rfl, c1.set i rfl⟩
theorem ew_rng1 {n : Int} (ha : Ev E e k (.int n) E1) (h1 : -4611686018427387904 ≤ n) (h2 : n < 4611686018427387904) : Ew E (dRng1 (dCons e dNil)) ((List.range n.toNat).map fun k => .int (k : Nat)) .no E1 := fun ρ q => by
  obtain ⟨rs, ρ1, e1, q1, c1⟩ := ea_cons ha ea_nil ρ q
  refine ⟨none, ρ1, ?_, rfl, c1⟩
  unfold dRng1
  rw [bd_eq e1, bd_eq (lookA_k q1 ⟨ha.1, trivial⟩ c1)]
  exact opt_eq (rng1_ok h1 h2)
theorem ew_rng2 {lo hi : Int} {eb : M Rs} (ha : Ev E e ka (.int lo) E1) (hb : Ev E1 eb kb (.int hi) E2) (h1 : -4611686018427387904 ≤ lo) (h2 : lo < 4611686018427387904) (h3 : -4611686018427387904 ≤ hi) (h4 : hi < 4611686018427387904) (hr : Rdk ka (.int lo) E2 := by repeat (first | exact True.intro | exact rfl | apply And.intro)) : Ew E (dRng2 (dCons e (dCons eb dNil))) ((List.range (hi - lo).toNat).map fun k => .int (lo + (k : Nat))) .no E2 := fun ρ q => by
  obtain ⟨rs, ρ1, e1, q1, c1⟩ := ea_cons ha (ea_cons hb ea_nil) ρ q
  refine ⟨none, ρ1, ?_, rfl, c1⟩
  unfold dRng2
  rw [bd_eq e1, bd_eq (lookA_k q1 ⟨hr, hb.1, trivial⟩ c1)]
  exact opt_eq (rng2_ok h1 h2 h3 h4)
/-! ### targets -/
def Tg (g : DG) (d : D) (E E' : List Ms) : Prop := ∀ ρ, Ec E ρ → ∃ ρ', g d ρ = some ρ' ∧ Ec E' ρ'
def TgA (g : DGs) (ds : List D) (E E' : List Ms) : Prop := ∀ ρ, Ec E ρ → ∃ ρ', g ds ρ = some ρ' ∧ Ec E' ρ'
theorem tg_n (hi : i < E.length := by first | decide | exact of_decide_eq_true rfl) : Tg (gN i) d E (E.set i (.fz d)) := fun ρ q => ⟨_, gN_ok (by rw [← q.len]; exact hi), q.set i rfl⟩
theorem tg_nil : TgA gsN [] E E := fun ρ q => ⟨ρ, rfl, q⟩
theorem tg_cons {g : DG} {gs : DGs} (h : Tg g d E E1) (h2 : TgA gs ds E1 E2) : TgA (gsC g gs) (d :: ds) E E2 := fun ρ q => by
  obtain ⟨ρ1, e1, c1⟩ := h ρ q
  obtain ⟨ρ2, e2, c2⟩ := h2 ρ1 c1
  exact ⟨ρ2, by unfold gsC; simp only [e1, e2], c2⟩
theorem tg_t {n : Nat} {gs : DGs} (h : TgA gs ds E E1) (hn : ds.length = n := by rfl) : Tg (gT n gs) (.tuple ds) E E1 := fun ρ q => by
  obtain ⟨ρ1, e1, c1⟩ := h ρ q
  exact ⟨ρ1, by rw [gT_ok hn]; exact e1, c1⟩
theorem sg_asg {g : DG} (ha : Ev E a k d E1) (hg : Tg g d (frzE k d E1) E2) (h : Sg E2 rest P v) : Sg E (dSeq (dAsg g a) rest) P v := fun ρ q => by
  obtain ⟨r, ρ1, e1, q1, c1⟩ := ha.2 ρ q
  obtain ⟨ρ2, e2, c2⟩ := frz_k q1 ha.1 c1
  obtain ⟨ρ3, e3, c3⟩ := hg ρ2 c2
  rw [seq_nx (ρ1 := ρ3) (by unfold dAsg; rw [bd_eq e1]; simp only [e2, e3])]
  exact h ρ3 c3
/-! ### for -/
def Pn {σ : Type} (Eσ : σ → List Ms) : σ → SR → Prop := fun s o => match o with
  | .nx ρ => Ec (Eσ s) ρ
  | .ct ρ => Ec (Eσ s) ρ
  | _ => False
theorem sg_passN {σ : Type} {Eσ : σ → List Ms} {w : σ} (h : Le E (Eσ w)) : Sg E dPass (Pn Eσ) w := fun ρ e => h.ec e
theorem for_pure {α σ : Type} {g : DG} {enc : α → D} {Eσ : σ → List Ms} {step : σ → α → σ} {I : Nat → σ → Prop} {xs : List α}
    (hb : ∀ k x s, xs[k]? = some x → I k s → ∃ E2, Tg g (enc x) (Eσ s) E2 ∧ Sg E2 body (Pn Eσ) (step s x)) (hi : ∀ k x s, xs[k]? = some x → I k s → I (k + 1) (step s x)) :
    ∀ (ys : List α) (k : Nat) (s : σ) (ρ : List Sl), xs.drop k = ys → I k s → Ec (Eσ s) ρ → ∃ ρ', forGo g body (ys.map enc) ρ = .nx ρ' ∧ Ec (Eσ (ys.foldl step s)) ρ' ∧ I (k + ys.length) (ys.foldl step s)
  | [], k, s, ρ, _, hI, e => ⟨ρ, rfl, e, hI⟩
  | y :: ys, k, s, ρ, hd, hI, e => by
    have hx : xs[k]? = some y := by
      have := congrArg (fun l => l[0]?) hd
      simpa using this
    have hd' : xs.drop (k + 1) = ys := by
      have := congrArg (List.drop 1) hd
      simpa using this
    obtain ⟨E2, h1, h2⟩ := hb k y s hx hI
    obtain ⟨ρ1, e1, c1⟩ := h1 ρ e
    have q := h2 ρ1 c1
    have fin : ∀ ρ2, Ec (Eσ (step s y)) ρ2 → ∃ ρ', forGo g body (ys.map enc) ρ2 = .nx ρ' ∧ Ec (Eσ ((y :: ys).foldl step s)) ρ' ∧ I (k + (y :: ys).length) ((y :: ys).foldl step s) := fun ρ2 c2 => by
      obtain ⟨ρ3, e3, c3, i3⟩ := for_pure hb hi ys (k + 1) (step s y) ρ2 hd' (hi k y s hx hI) c2
      exact ⟨ρ3, e3, c3, by rw [List.length_cons, show k + (ys.length + 1) = k + 1 + ys.length by omega]; exact i3⟩
    rw [List.map_cons]
    unfold forGo
    simp only [e1]
    cases eb : body ρ1 with
    | nx ρ2 => rw [eb] at q; exact fin ρ2 q
    | ct ρ2 => rw [eb] at q; exact fin ρ2 q
    | _ => rw [eb] at q; exact q.elim
theorem sg_for {α σ : Type} {w : M Wk} {g : DG} (enc : α → D) {xs : List α} (Eσ : σ → List Ms) {s0 : σ} {step : σ → α → σ} (I : Nat → σ → Prop) {o : σ → τ}
    (hw : Ew E w (xs.map enc) li E1) (h0 : Le E1 (Eσ s0)) (i0 : I 0 s0)
    (hb : ∀ k x s, xs[k]? = some x → I k s → ∃ E2, Tg g (enc x) (Eσ s) E2 ∧ Sg E2 body (Pn Eσ) (step s x)) (hi : ∀ k x s, xs[k]? = some x → I k s → I (k + 1) (step s x))
    (hr : ∀ s, s = xs.foldl step s0 → I xs.length s → Sg (unlE li (Eσ s)) rest P (o s)) : Sg E (dSeq (dFor w g body) rest) P (Let (xs.foldl step s0) o) := fun ρ e => by
  obtain ⟨l, ρ1, e1, hl, c1⟩ := hw ρ e
  obtain ⟨ρ2, e2, c2, i2⟩ := for_pure hb hi xs 0 s0 ρ1 rfl i0 (h0.ec c1)
  rw [seq_nx (ρ1 := unl l ρ2) (by unfold dFor; rw [e1]; simp only [e2]; rfl)]
  exact hr _ rfl (by simpa using i2) _ (unl_k hl c2)
inductive Ou (ρ σ : Type) where
  | rt (v : ρ) | nx (s : σ) | bk (s : σ)
def foldO {ρ σ α : Type} (f : σ → α → Ou ρ σ) : List α → σ → Ou ρ σ
  | [], s => .nx s
  | x :: xs, s => match f s x with
    | .rt v => .rt v
    | .bk s => .bk s
    | .nx s => foldO f xs s
def seqO {ρ σ τ : Type} (u : Ou ρ σ) (inj : ρ → τ) (o : σ → τ) : τ := match u with
  | .rt v => inj v
  | .nx s => o s
  | .bk s => o s
def Po {γ σ : Type} (R : γ → Rs → List Sl → Prop) (Eσ : σ → List Ms) : Ou γ σ → SR → Prop
  | .rt v, .rt r ρ => R v r ρ
  | .nx s, .nx ρ => Ec (Eσ s) ρ
  | .nx s, .ct ρ => Ec (Eσ s) ρ
  | .bk s, .bk ρ => Ec (Eσ s) ρ
  | _, _ => False
theorem sg_passO {γ σ : Type} {R : γ → Rs → List Sl → Prop} {Eσ : σ → List Ms} {w : σ} (h : Le E (Eσ w)) : Sg E dPass (Po R Eσ) (.nx w) := fun ρ e => h.ec e
theorem sg_retO {γ σ : Type} {n : Nat} {enc : γ → D} {outs : γ → List Ms} {Eσ : σ → List Ms} {v : γ} {ke : Kd} (ha : Ev E a ke (enc v) E1) (hl : Le E1 (outs v)) (ho : RetOk n (outs v) E1 (enc v) ke k) : Sg E (dSeq (dRet a) rest) (Po (Rt n enc k outs) Eσ) (.rt v) := fun ρ e => by
  obtain ⟨r, ρ1, e1, q1, c1⟩ := ha.2 ρ e
  have : dSeq (dRet a) rest ρ = .rt r ρ1 := by unfold dSeq dRet; rw [e1]
  rw [this]
  exact ⟨rt_ok q1 ha.1 c1 ho, hl.ec c1⟩
theorem for_out {α σ γ : Type} {g : DG} {R : γ → Rs → List Sl → Prop} {enc : α → D} {Eσ : σ → List Ms} {step : σ → α → Ou γ σ} {I : Nat → σ → Prop} {xs : List α}
    (hb : ∀ k x s, xs[k]? = some x → I k s → ∃ E2, Tg g (enc x) (Eσ s) E2 ∧ Sg E2 body (Po R Eσ) (step s x)) (hi : ∀ k x s s', xs[k]? = some x → I k s → (step s x = .nx s' ∨ step s x = .bk s') → I (k + 1) s') :
    ∀ (ys : List α) (k : Nat) (s : σ) (ρ : List Sl), xs.drop k = ys → k ≤ xs.length → I k s → Ec (Eσ s) ρ → match foldO step ys s with
      | .rt v => ∃ r ρ', forGo g body (ys.map enc) ρ = .rt r ρ' ∧ R v r ρ'
      | .nx s' => ∃ ρ', forGo g body (ys.map enc) ρ = .nx ρ' ∧ Ec (Eσ s') ρ' ∧ ∃ k, k ≤ xs.length ∧ I k s'
      | .bk s' => ∃ ρ', forGo g body (ys.map enc) ρ = .nx ρ' ∧ Ec (Eσ s') ρ' ∧ ∃ k, k ≤ xs.length ∧ I k s'
  | [], k, s, ρ, hd, hk, hI, e => ⟨ρ, rfl, e, k, hk, hI⟩
  | y :: ys, k, s, ρ, hd, hk, hI, e => by
    have hx : xs[k]? = some y := by
      have := congrArg (fun l => l[0]?) hd
      simpa using this
    have hlt : k < xs.length := (List.getElem?_eq_some_iff.mp hx).1
    have hd' : xs.drop (k + 1) = ys := by
      have := congrArg (List.drop 1) hd
      simpa using this
    obtain ⟨E2, h1, h2⟩ := hb k y s hx hI
    obtain ⟨ρ1, e1, c1⟩ := h1 ρ e
    have q := h2 ρ1 c1
    have hi' := fun s' => hi k y s s' hx hI
    unfold foldO
    rw [List.map_cons]
    unfold forGo
    simp only [e1]
    cases es : step s y with
    | rt v =>
      rw [es] at q
      cases eb : body ρ1 with
      | rt r ρ2 => rw [eb] at q; exact ⟨r, ρ2, rfl, q⟩
      | _ => rw [eb] at q; exact q.elim
    | bk s' =>
      rw [es] at q
      cases eb : body ρ1 with
      | bk ρ2 => rw [eb] at q; exact ⟨ρ2, rfl, q, k + 1, hlt, hi' s' (.inr es)⟩
      | _ => rw [eb] at q; exact q.elim
    | nx s' =>
      rw [es] at q
      cases eb : body ρ1 with
      | nx ρ2 => rw [eb] at q; exact for_out hb hi ys (k + 1) s' ρ2 hd' hlt (hi' s' (.inl es)) q
      | ct ρ2 => rw [eb] at q; exact for_out hb hi ys (k + 1) s' ρ2 hd' hlt (hi' s' (.inl es)) q
      | _ => rw [eb] at q; exact q.elim
theorem sg_forO {α σ γ : Type} {w : M Wk} {g : DG} {R : γ → Rs → List Sl → Prop} (enc : α → D) {xs : List α} (Eσ : σ → List Ms) {s0 : σ} {step : σ → α → Ou γ σ} (I : Nat → σ → Prop) {inj : γ → τ} {o : σ → τ}
    (hP : ∀ v r ρ l, R v r ρ → P (inj v) (.rt r (unl l ρ)))
    (hw : Ew E w (xs.map enc) li E1) (h0 : Le E1 (Eσ s0)) (i0 : I 0 s0)
    (hb : ∀ k x s, xs[k]? = some x → I k s → ∃ E2, Tg g (enc x) (Eσ s) E2 ∧ Sg E2 body (Po R Eσ) (step s x)) (hi : ∀ k x s s', xs[k]? = some x → I k s → (step s x = .nx s' ∨ step s x = .bk s') → I (k + 1) s')
    (hr : ∀ s, (∃ k, k ≤ xs.length ∧ I k s) → Sg (unlE li (Eσ s)) rest P (o s)) : Sg E (dSeq (dFor w g body) rest) P (seqO (foldO step xs s0) inj o) := fun ρ e => by
  obtain ⟨l, ρ1, e1, hl, c1⟩ := hw ρ e
  have h := for_out hb hi xs 0 s0 ρ1 rfl (Nat.zero_le _) i0 (h0.ec c1)
  unfold seqO
  cases ef : foldO step xs s0 with
  | rt v =>
    rw [ef] at h
    obtain ⟨r, ρ2, e2, q⟩ := h
    have : dSeq (dFor w g body) rest ρ = .rt r (unl l ρ2) := by unfold dSeq dFor; rw [e1]; simp only [e2]; rfl
    rw [this]; exact hP v r ρ2 l q
  | nx s =>
    rw [ef] at h
    obtain ⟨ρ2, e2, c2, q⟩ := h
    rw [seq_nx (ρ1 := unl l ρ2) (by unfold dFor; rw [e1]; simp only [e2]; rfl)]
    exact hr s q _ (unl_k hl c2)
  | bk s =>
    rw [ef] at h
    obtain ⟨ρ2, e2, c2, q⟩ := h
    rw [seq_nx (ρ1 := unl l ρ2) (by unfold dFor; rw [e1]; simp only [e2]; rfl)]
    exact hr s q _ (unl_k hl c2)
def noLk : List Ms → Bool
  | [] => true
  | .lk _ :: _ => false
  | _ :: E => noLk E
theorem noLk_at : ∀ {E : List Ms} {i : Nat} {d : D}, noLk E = true → E[i]? ≠ some (.lk d)
  | [], i, d, h => by simp
  | m :: E, 0, d, h => by
    intro z
    simp at z; subst z; cases h
  | m :: E, i + 1, d, h => by
    have : noLk E = true := by cases m <;> first | exact h | cases h
    simpa using noLk_at (i := i) (d := d) this
theorem ec_unl (h : Ec E ρ) (hn : noLk E = true) (l : Option Nat) : Ec E (unl l ρ) := by
  cases l with
  | none => exact h
  | some i =>
    have := unl_k (li := .sure i) (l := some i) rfl h
    unfold unlE at this
    cases em : E[i]? with
    | none => simp only [em] at this; exact this
    | some m =>
      simp only [em] at this
      cases m with
      | lk d => exact absurd em (noLk_at hn)
      | _ => exact this
theorem rdb_unl {i : Nat} {d : D} (h : Rdb ρ i d) (l : Option Nat) : Rdb (unl l ρ) i d := by
  unfold unl
  cases l with
  | none => exact h
  | some j =>
    simp only
    split
    · rename_i d' e
      by_cases hj : j = i
      · subst hj
        have hlt := (List.getElem?_eq_some_iff.mp e).1
        unfold Rdb
        rw [List.getElem?_set_self hlt]
        rcases h with h | h | h <;> rw [e] at h <;> cases h
        exact .inr (.inl rfl)
      · unfold Rdb; rw [List.getElem?_set_ne hj]; exact h
    · exact h
theorem at_unl {i : Nat} {s : Sl} (h : ρ[i]? = some s) (hs : ∀ d, s ≠ .lk d) (l : Option Nat) : (unl l ρ)[i]? = some s := by
  unfold unl
  cases l with
  | none => exact h
  | some j =>
    simp only
    split
    · rename_i d' e
      by_cases hj : j = i
      · subst hj; rw [h] at e; cases e; exact absurd rfl (hs _)
      · rw [List.getElem?_set_ne hj]; exact h
    · exact h
theorem rt_unl {α : Type} {n : Nat} {enc : α → D} {outs : α → List Ms} (hn : ∀ v, noLk (outs v) = true) {v : α} {r : Rs} (l : Option Nat) (h : Rt n enc k outs v r ρ) : Rt n enc k outs v r (unl l ρ) := by
  refine ⟨?_, ec_unl h.2 (hn v) l⟩
  have h := h.1
  cases k with
  | val =>
    rcases h with h | ⟨i, h, q⟩
    · exact .inl h
    · refine .inr ⟨i, h, ?_⟩
      rcases q with q | ⟨q1, q2, q⟩
      · exact .inl (at_unl q (fun _ z => nomatch z) l)
      · exact .inr ⟨q1, q2, rdb_unl q l⟩
  | new =>
    rcases h with h | ⟨i, h, q1, q⟩
    · exact .inl h
    · exact .inr ⟨i, h, q1, at_unl q (fun _ z => nomatch z) l⟩
  | vn =>
    rcases h with h | h | ⟨i, h, q1, q2, q⟩
    · exact .inl h
    · exact .inr (.inl h)
    · exact .inr (.inr ⟨i, h, q1, q2, rdb_unl q l⟩)
  | nam i => exact h.elim
  | own i => exact h.elim
theorem pr_out {α : Type} {n : Nat} {enc : α → D} {outs : α → List Ms} (hn : ∀ v, noLk (outs v) = true := by intro _; rfl) : ∀ v r ρ l, Rt n enc k outs v r ρ → Pr n enc k outs (id v) (.rt r (unl l ρ)) := fun _ _ _ l h => rt_unl hn l h
theorem po_out {α σ : Type} {n : Nat} {enc : α → D} {outs : α → List Ms} {Eσ : σ → List Ms} (hn : ∀ v, noLk (outs v) = true := by intro _; rfl) : ∀ v r ρ l, Rt n enc k outs v r ρ → Po (Rt n enc k outs) Eσ (.rt v) (.rt r (unl l ρ)) := fun _ _ _ l h => rt_unl hn l h
/-! ### while -/
def wh {σ : Type} (c : σ → Bool) (f : σ → σ) : Nat → σ → σ
  | 0, s => s
  | n + 1, s => if c s = true then wh c f n (f s) else s
theorem while_pure {σ : Type} {t : M Bool} {Eσ : σ → List Ms} {cc : σ → Bool} {step : σ → σ} {I : σ → Prop} (μ : σ → Nat)
    (hc : ∀ s, I s → Tj (Eσ s) t (cc s) (Eσ s)) (hb : ∀ s, I s → cc s = true → Sg (Eσ s) body (Pn Eσ) (step s)) (hi : ∀ s, I s → cc s = true → I (step s) ∧ μ (step s) < μ s) :
    ∀ (n N : Nat) (s : σ) (ρ : List Sl), μ s ≤ N → N < n → I s → Ec (Eσ s) ρ → ∃ ρ', whileGo t body n ρ = .nx ρ' ∧ Ec (Eσ (wh cc step N s)) ρ' ∧ I (wh cc step N s) ∧ cc (wh cc step N s) = false
  | 0, N, s, ρ, h1, h2, _, _ => by omega
  | n + 1, N, s, ρ, h1, h2, hI, e => by
    obtain ⟨ρ1, e1, c1⟩ := hc s hI ρ e
    unfold whileGo
    rw [e1]
    cases ec : cc s with
    | false =>
      have : wh cc step N s = s := by cases N <;> unfold wh <;> simp [ec]
      rw [this]; exact ⟨ρ1, rfl, c1, hI, ec⟩
    | true =>
      obtain ⟨h3, h4⟩ := hi s hI ec
      have q := hb s hI ec ρ1 c1
      match N, h1, h2 with
      | 0, h1, _ => omega
      | N + 1, h1, h2 =>
        have : wh cc step (N + 1) s = wh cc step N (step s) := by conv => lhs; unfold wh
                                                                  simp [ec]
        rw [this]
        simp only
        cases eb : body ρ1 with
        | nx ρ2 => rw [eb] at q; exact while_pure μ hc hb hi n N (step s) ρ2 (by omega) (by omega) h3 q
        | ct ρ2 => rw [eb] at q; exact while_pure μ hc hb hi n N (step s) ρ2 (by omega) (by omega) h3 q
        | _ => rw [eb] at q; exact q.elim
theorem sg_while {σ : Type} {t : M Bool} {n : Nat} (Eσ : σ → List Ms) (N : Nat) {s0 : σ} {cc : σ → Bool} {step : σ → σ} (I : σ → Prop) (μ : σ → Nat) {o : σ → τ} (h0 : Le E (Eσ s0)) (i0 : I s0) (hμ : μ s0 ≤ N) (hN : N < n)
    (hc : ∀ s, I s → Tj (Eσ s) t (cc s) (Eσ s)) (hb : ∀ s, I s → cc s = true → Sg (Eσ s) body (Pn Eσ) (step s)) (hi : ∀ s, I s → cc s = true → I (step s) ∧ μ (step s) < μ s)
    (hr : ∀ s, s = wh cc step N s0 → I s → cc s = false → Sg (Eσ s) rest P (o s)) : Sg E (dSeq (dWhile n t body) rest) P (Let (wh cc step N s0) o) := fun ρ e => by
  obtain ⟨ρ2, e2, c2, i2, z⟩ := while_pure μ hc hb hi n N s0 ρ hμ hN i0 (h0.ec e)
  rw [seq_nx (s := dWhile n t body) (ρ1 := ρ2) e2]
  exact hr _ rfl i2 z ρ2 c2
/-! ### comprehensions -/
def wipeE : List Nat → List Ms → List Ms
  | [], E => E
  | i :: is, E => (wipeE is E).set i .any
theorem wipe_k : ∀ {own : List Nat}, Ec E ρ → Ec (wipeE own E) (wipeR own ρ)
  | [], h => h
  | _ :: _, h => (wipe_k h).set _ trivial
theorem wipeE_len : ∀ own, (wipeE own E).length = E.length
  | [] => rfl
  | i :: is => by unfold wipeE; rw [List.length_set, wipeE_len is]
theorem wipeE_out {i : Nat} : ∀ {own : List Nat}, i ∉ own → (wipeE own E)[i]? = E[i]?
  | [], h => rfl
  | j :: js, h => by
    unfold wipeE
    have hj : j ≠ i := fun z => h (z ▸ List.mem_cons_self)
    rw [List.getElem?_set_ne hj]
    exact wipeE_out fun z => h (List.mem_cons_of_mem _ z)
theorem rest_k {own : List Nat} (h1 : Ec E ρ1) (h2 : Ec (wipeE own E2) ρ2) (hE : wipeE own E2 = wipeE own E) : Ec E (restore own ρ1 ρ2) := by
  have hl : ρ2.length = ρ1.length := by rw [← h1.len, ← h2.len, hE, wipeE_len]
  refine Ec.pt (by rw [restore_len hl, h1.len]) fun i m s e1 e2 => ?_
  have hi : i < ρ1.length := by rw [← h1.len]; exact (List.getElem?_eq_some_iff.mp e1).1
  by_cases hm : i ∈ own
  · rw [restore_in hl hi hm] at e2; exact h1.at e1 e2
  · rw [restore_out hm] at e2
    refine h2.at (i := i) ?_ e2
    rw [hE, wipeE_out hm]; exact e1
theorem lc_pure {α : Type} {own : List Nat} {g : DG} {tt : M Bool} {te : M Rs} {enc : α → D} {p : α → Bool} {fe : α → D} {Eb : List Ms} :
    ∀ (xs : List α), (∀ x ∈ xs, ∃ E2, Tg g (enc x) Eb E2 ∧ Tj E2 tt (p x) E2 ∧ (p x = false → Le (wipeE own E2) Eb) ∧ (p x = true → ∃ k E3, Ev E2 te k (fe x) E3 ∧ Le (wipeE own (frzE k (fe x) E3)) Eb)) →
    ∀ (acc : List D) (ρ : List Sl), Ec Eb ρ → ∃ ρ', lcGo own g tt te (xs.map enc) acc ρ = .ok (acc ++ (xs.filter p).map fe) ρ' ∧ Ec Eb ρ'
  | [], _, acc, ρ, e => ⟨ρ, by simp [lcGo, pr], e⟩
  | x :: xs, h, acc, ρ, e => by
    obtain ⟨E2, h1, h2, h4, h3⟩ := h x (by simp)
    have ih := lc_pure xs fun y hy => h y (by simp [hy])
    obtain ⟨ρ1, e1, c1⟩ := h1 ρ e
    obtain ⟨ρ2, e2, c2⟩ := h2 ρ1 c1
    rw [List.map_cons]
    unfold lcGo
    simp only [e1, e2]
    rw [List.filter_cons]
    cases hp : p x with
    | false =>
      obtain ⟨ρ3, e3, c3⟩ := ih acc _ ((h4 hp).ec (wipe_k c2))
      exact ⟨ρ3, e3, c3⟩
    | true =>
      obtain ⟨k, E3, q1, q2⟩ := h3 hp
      obtain ⟨r, ρ3, e3, q3, c3⟩ := q1.2 ρ2 c2
      obtain ⟨ρ4, e4, c4⟩ := frz_k q3 q1.1 c3
      obtain ⟨ρ5, e5, c5⟩ := ih (acc ++ [fe x]) _ (q2.ec (wipe_k c4))
      simp only [bd_eq e3, e4]
      exact ⟨ρ5, by rw [e5, List.append_assoc]; rfl, c5⟩
theorem ev_lc {α β : Type} {own : List Nat} {w : M Wk} {g : DG} {tt : M Bool} {te : M Rs} (enc : α → D) (encB : β → D) {xs : List α} {p : α → Bool} {fe : α → β}
    (hw : Ew E w (xs.map enc) li E1) (hsz : xs.length ≤ 16777216)
    (hb : ∀ x ∈ xs, ∃ E2, Tg g (enc x) (wipeE own E1) E2 ∧ Tj E2 tt (p x) E2 ∧ (p x = false → Le (wipeE own E2) (wipeE own E1)) ∧ (p x = true → ∃ k E3, Ev E2 te k (encB (fe x)) E3 ∧ Le (wipeE own (frzE k (encB (fe x)) E3)) (wipeE own E1))) :
    Ev E (dLc own w g tt te) .new (.list (((xs.filter p).map fe).map encB)) (unlE li E1) := ⟨trivial, fun ρ e => by
  obtain ⟨l, ρ1, e1, hl, c1⟩ := hw ρ e
  obtain ⟨ρ2, e2, c2⟩ := lc_pure (fe := fun x => encB (fe x)) xs hb [] _ (wipe_k (own := own) c1)
  refine ⟨_, _, ?_, rfl, unl_k hl (rest_k c1 c2 rfl)⟩
  unfold dLc
  simp only [e1, e2]
  rw [if_pos (by rw [List.length_map, sizeLine_eq]; exact hsz), List.nil_append, List.map_map]; rfl⟩
theorem ev_lcY {α β : Type} {own : List Nat} {w : M Wk} {g : DG} {te : M Rs} (enc : α → D) (encB : β → D) {xs : List α} {fe : α → β}
    (hw : Ew E w (xs.map enc) li E1) (hsz : xs.length ≤ 16777216)
    (hb : ∀ x ∈ xs, ∃ E2, Tg g (enc x) (wipeE own E1) E2 ∧ ∃ k E3, Ev E2 te k (encB (fe x)) E3 ∧ Le (wipeE own (frzE k (encB (fe x)) E3)) (wipeE own E1)) :
    Ev E (dLc own w g dYes te) .new (.list ((xs.map fe).map encB)) (unlE li E1) := by
  have := ev_lc (p := fun _ => true) (tt := dYes) enc encB (fe := fe) hw hsz fun x hx => by
    obtain ⟨E2, h1, h2⟩ := hb x hx
    exact ⟨E2, h1, fun ρ e => ⟨ρ, rfl, e⟩, (fun z => nomatch z), fun _ => h2⟩
  rwa [filter_yes] at this
/-- with a state that goes on -/
def mapS {α β σ : Type} (f : σ → α → β × σ) : σ → List α → List β × σ
  | s, [] => ([], s)
  | s, x :: xs => ((f s x).1 :: (mapS f (f s x).2 xs).1, (mapS f (f s x).2 xs).2)
theorem lc_st {α β σ : Type} {own : List Nat} {g : DG} {te : M Rs} {enc : α → D} {encB : β → D} {fe : σ → α → β × σ} {Eb : σ → List Ms} :
    ∀ (xs : List α), (∀ x ∈ xs, ∀ s, ∃ E2, Tg g (enc x) (Eb s) E2 ∧ ∃ k E3, Ev E2 te k (encB (fe s x).1) E3 ∧ Le (wipeE own (frzE k (encB (fe s x).1) E3)) (Eb (fe s x).2)) →
    ∀ (s : σ) (acc : List D) (ρ : List Sl), Ec (Eb s) ρ → ∃ ρ', lcGo own g dYes te (xs.map enc) acc ρ = .ok (acc ++ (mapS fe s xs).1.map encB) ρ' ∧ Ec (Eb (mapS fe s xs).2) ρ'
  | [], _, s, acc, ρ, e => ⟨ρ, by simp [lcGo, pr, mapS], e⟩
  | x :: xs, h, s, acc, ρ, e => by
    obtain ⟨E2, h1, k, E3, q1, q2⟩ := h x (by simp) s
    have ih := lc_st xs fun y hy => h y (by simp [hy])
    obtain ⟨ρ1, e1, c1⟩ := h1 ρ e
    obtain ⟨r, ρ3, e3, q3, c3⟩ := q1.2 ρ1 c1
    obtain ⟨ρ4, e4, c4⟩ := frz_k q3 q1.1 c3
    obtain ⟨ρ5, e5, c5⟩ := ih (fe s x).2 (acc ++ [encB (fe s x).1]) _ (q2.ec (wipe_k c4))
    rw [List.map_cons]
    unfold lcGo
    simp only [e1, show dYes ρ1 = .ok true ρ1 from rfl, bd_eq e3, e4]
    exact ⟨ρ5, by rw [e5, List.append_assoc]; rfl, c5⟩
theorem ev_lcS {α β σ : Type} {own : List Nat} {w : M Wk} {g : DG} {te : M Rs} (enc : α → D) (encB : β → D) (Eσ : σ → List Ms) {s0 : σ} {xs : List α} {fe : σ → α → β × σ}
    (hw : Ew E w (xs.map enc) li (Eσ s0)) (hsz : xs.length ≤ 16777216) (hlen : ∀ s s', (Eσ s).length = (Eσ s').length := by intro _ _; rfl) (hrest : ∀ s s' i, i ∈ own → (Eσ s)[i]? = (Eσ s')[i]? := by intro _ _ i h; simp at h; rcases h with h | h <;> subst h <;> rfl)
    (hb : ∀ x ∈ xs, ∀ s, ∃ E2, Tg g (enc x) (wipeE own (Eσ s)) E2 ∧ ∃ k E3, Ev E2 te k (encB (fe s x).1) E3 ∧ Le (wipeE own (frzE k (encB (fe s x).1) E3)) (wipeE own (Eσ (fe s x).2))) :
    Ev E (dLc own w g dYes te) .new (.list ((mapS fe s0 xs).1.map encB)) (unlE li (Eσ (mapS fe s0 xs).2)) := ⟨trivial, fun ρ e => by
  obtain ⟨l, ρ1, e1, hl, c1⟩ := hw ρ e
  obtain ⟨ρ2, e2, c2⟩ := lc_st (Eb := fun s => wipeE own (Eσ s)) xs hb s0 [] _ (wipe_k (own := own) c1)
  have hl2 : ρ2.length = ρ1.length := by rw [← c1.len, ← c2.len, wipeE_len, hlen]
  have c3 : Ec (Eσ (mapS fe s0 xs).2) (restore own ρ1 ρ2) := by
    refine Ec.pt (by rw [restore_len hl2, ← c1.len, hlen]) fun i m s q1 q2 => ?_
    have hi : i < ρ1.length := by rw [← c1.len, hlen s0 (mapS fe s0 xs).2]; exact (List.getElem?_eq_some_iff.mp q1).1
    by_cases hm : i ∈ own
    · rw [restore_in hl2 hi hm] at q2; exact c1.at ((hrest _ _ i hm).trans q1) q2
    · rw [restore_out hm] at q2
      exact c2.at (i := i) (by rw [wipeE_out hm]; exact q1) q2
  refine ⟨_, _, ?_, rfl, unl_k hl c3⟩
  unfold dLc
  simp only [e1, e2]
  rw [if_pos (by rw [List.length_map, sizeLine_eq]; exact hsz), List.nil_append]⟩
end
end TL
namespace TL
open PySem L2 DL
section
variable {E E1 E2 E3 : List Ms} {m a b c e : M Rs} {k ka kb kc : Kd} {d da db dc : D} {i j : Nat} {f : M (List Rs)} {ks : List Kd} {ds : List D} {τ : Type} {P : τ → SR → Prop} {rest s s1 s2 body : DS} {v x y : τ} {li : Lki} {l : Option Nat} {ρ ρ1 ρ2 : List Sl}
/-! ### calls -/
def nmI : List Kd → List Nat
  | .nam i :: ks => i :: nmI ks
  | .own i :: ks => i :: nmI ks
  | _ :: ks => nmI ks
  | [] => []
def OwE : Option Ms → D → Ms → Prop
  | some (.ow e), d, m => e = d ∧ Lm (.ow d) m
  | some (.lk e), d, m => e = d ∧ Lm (.lk d) m
  | _, _, _ => False
def RdX : Option Ms → D → Prop
  | some (.rd e), d => e = d
  | _, _ => False
theorem RdX.rdm {o : Option Ms} {d : D} (h : RdX o d) : RdM o d := by
  cases o with
  | none => exact h
  | some m => cases m <;> first | exact h | exact h.elim
/-- one argument: how it is lent, what it is, the slots ahead, what the def asks, what it leaves -/
def Nam2 (o : Option Ms) (d : D) (m m' : Ms) : Bool → Prop
  | true => RdX o d ∧ Lm (.rd d) m ∧ Lm m' (.rd d)
  | false => RdR o d ∧ Lm (.fz d) m
def Own2 (o : Option Ms) (d : D) (m : Ms) : Bool → Prop
  | true => OwE o d m
  | false => RdM o d ∧ Lm (.fz d) m
def Arg1 (l : Bool) (k : Kd) (d : D) (E : List Ms) (m m' : Ms) : Prop := match k with
  | .val => Lm (.fz d) m
  | .new => Lm (.ow d) m
  | .vn => Lm (.rd d) m
  | .nam i => Nam2 E[i]? d m m' l
  | .own i => Own2 E[i]? d m l
def ArgOk : List Bool → List Kd → List D → List Ms → List Ms → List Ms → Prop
  | l :: ls, k :: ks, d :: ds, E, m :: ins, m' :: outs => Arg1 l k d E m m' ∧ ArgOk ls ks ds E ins outs
  | [], [], [], _, [], [] => True
  | _, _, _, _, _, _ => False
def argE : List Bool → List Kd → List D → List Ms → List Ms
  | false :: ls, .own i :: ks, d :: ds, E => argE ls ks ds (E.set i (.fz d))
  | _ :: ls, _ :: ks, _ :: ds, E => argE ls ks ds E
  | _, _, _, E => E
def wbE : List Bool → List Kd → List Ms → List Ms → List Ms
  | true :: ls, .own i :: ks, m :: outs, E => wbE ls ks outs (E.set i m)
  | _ :: ls, _ :: ks, _ :: outs, E => wbE ls ks outs E
  | _, _, _, E => E
theorem Arg1.frame {l : Bool} {m m' n : Ms} (h : Arg1 l k d E m m') (hi : ∀ j ∈ nmI [k], j ≠ i) : Arg1 l k d (E.set i n) m m' := by
  cases k with
  | nam j =>
    have : i ≠ j := fun z => hi j (by simp [nmI]) z.symm
    show Nam2 (E.set i n)[j]? d m m' l
    rw [List.getElem?_set_ne this]; exact h
  | own j =>
    have : i ≠ j := fun z => hi j (by simp [nmI]) z.symm
    show Own2 (E.set i n)[j]? d m l
    rw [List.getElem?_set_ne this]; exact h
  | _ => exact h
theorem nmI_cons : nmI (k :: ks) = nmI [k] ++ nmI ks := by cases k <;> rfl
theorem ArgOk.frame {n : Ms} : ∀ {ls : List Bool} {ks : List Kd} {ds : List D} {ins outs : List Ms}, ArgOk ls ks ds E ins outs → i ∉ nmI ks → ArgOk ls ks ds (E.set i n) ins outs
  | l :: ls, k :: ks, d :: ds, m :: ins, m' :: outs, h, hi => by
    rw [nmI_cons, List.mem_append] at hi
    exact ⟨Arg1.frame h.1 fun j hj z => hi (.inl (z ▸ hj)), ArgOk.frame h.2 fun z => hi (.inr z)⟩
  | [], [], [], [], [], _, _ => trivial
  | [], [], [], _ :: _, _, h, _ => h.elim
  | [], [], [], [], _ :: _, h, _ => h.elim
  | [], [], _ :: _, _, _, h, _ => h.elim
  | [], _ :: _, _, _, _, h, _ => h.elim
  | _ :: _, [], _, _, _, h, _ => h.elim
  | _ :: _, _ :: _, [], _, _, h, _ => h.elim
  | _ :: _, _ :: _, _ :: _, [], _, h, _ => h.elim
  | _ :: _, _ :: _, _ :: _, _ :: _, [], h, _ => h.elim
/-- one argument as it is lent -/
def Re1 (l : Bool) (k : Kd) (m : Ms) (ρ : List Sl) : Rs → Prop
  | .fz d => Mo m (.fz d) ∧ (l = true → ∀ i, k ≠ .own i)
  | .ow d => Mo m (.ow d) ∧ (∀ i, k ≠ .own i)
  | .nm i => l = true ∧ (k = .nam i ∨ k = .own i) ∧ ∃ s, ρ[i]? = some s ∧ Mo m s ∧ ((∃ d, s = .ow d) ∨ ∃ d, s = .lk d)
theorem argS_k {l : Bool} {r : Rs} {m m' : Ms} (h : Kr k d r) (e : Ec E ρ) (q : Arg1 l k d E m m') : ∃ r' ρ', argS l r ρ = .ok r' ρ' ∧ Ec (argE [l] [k] [d] E) ρ' ∧ Re1 l k m ρ' r' ∧ (∀ j, j ∉ nmI [k] → ρ'[j]? = ρ[j]?) := by
  cases k with
  | val => have h : r = .fz d := h; subst h; cases l <;> exact ⟨_, ρ, rfl, e, ⟨Lm.mo q rfl, fun _ _ z => nomatch z⟩, fun _ _ => rfl⟩
  | new => have h : r = .ow d := h; subst h; cases l <;> exact ⟨_, ρ, rfl, e, ⟨Lm.mo q rfl, fun _ z => nomatch z⟩, fun _ _ => rfl⟩
  | vn =>
    rcases h with h | h <;> subst h
    · cases l <;> exact ⟨_, ρ, rfl, e, ⟨Lm.mo q (.inl rfl), fun _ _ z => nomatch z⟩, fun _ _ => rfl⟩
    · cases l <;> exact ⟨_, ρ, rfl, e, ⟨Lm.mo q (.inr (.inl rfl)), fun _ z => nomatch z⟩, fun _ _ => rfl⟩
  | nam i =>
    have fzk : ∀ (hl : l = false), Ec E (ρ.set i (.fz d)) := fun hl => by
      subst hl
      obtain ⟨q1, q2⟩ := q
      cases em : E[i]? with
      | none => rw [em] at q1; exact q1.elim
      | some m =>
        rw [em] at q1
        cases m with
        | fz d' => have q1 : d' = d := q1; subst q1; exact e.setR em rfl
        | rd d' => have q1 : d' = d := q1; subst q1; exact e.setR em (.inl rfl)
        | _ => exact q1.elim
    have aE : argE [l] [.nam i] [d] E = E := by cases l <;> rfl
    rw [aE]
    cases l with
    | true =>
      obtain ⟨q1, q2, q3⟩ := q
      rcases h with h | h <;> subst h
      · exact ⟨_, ρ, rfl, e, ⟨Lm.mo q2 (.inl rfl), fun _ _ z => nomatch z⟩, fun _ _ => rfl⟩
      · rcases e.rd (RdX.rdm q1) with z | z | z
        · exact ⟨.fz d, ρ, by unfold argS; simp only [z], e, ⟨Lm.mo q2 (.inl rfl), fun _ _ z => nomatch z⟩, fun _ _ => rfl⟩
        · exact ⟨.nm i, ρ, by unfold argS; simp only [z, if_true], e, ⟨rfl, .inl rfl, _, z, Lm.mo q2 (.inr (.inl rfl)), .inl ⟨d, rfl⟩⟩, fun _ _ => rfl⟩
        · exact ⟨.nm i, ρ, by unfold argS; simp only [z, if_true], e, ⟨rfl, .inl rfl, _, z, Lm.mo q2 (.inr (.inr rfl)), .inr ⟨d, rfl⟩⟩, fun _ _ => rfl⟩
    | false =>
      obtain ⟨q1, q2⟩ := q
      have fr : ∀ j, j ∉ nmI [.nam i] → (ρ.set i (.fz d))[j]? = ρ[j]? := fun j hj => List.getElem?_set_ne fun z => hj (by subst z; simp [nmI])
      rcases h with h | h <;> subst h
      · exact ⟨_, ρ, rfl, e, ⟨Lm.mo q2 rfl, fun z => nomatch z⟩, fun _ _ => rfl⟩
      · rcases e.rd q1.m with z | z | z
        · exact ⟨.fz d, ρ, by unfold argS; simp only [z], e, ⟨Lm.mo q2 rfl, fun z => nomatch z⟩, fun _ _ => rfl⟩
        · exact ⟨.fz d, _, by unfold argS; simp only [z]; rfl, fzk rfl, ⟨Lm.mo q2 rfl, fun z => nomatch z⟩, fr⟩
        · exact ⟨.fz d, _, by unfold argS; simp only [z]; rfl, fzk rfl, ⟨Lm.mo q2 rfl, fun z => nomatch z⟩, fr⟩
  | own i =>
    have h : r = .nm i := h; subst h
    cases l with
    | true =>
      have q : OwE E[i]? d m := q
      cases em : E[i]? with
      | none => rw [em] at q; exact q.elim
      | some m0 =>
        rw [em] at q
        obtain ⟨s, z1, z2⟩ := e.get em
        cases m0 with
        | ow d' =>
          have z2 : s = .ow d' := z2; subst z2
          obtain ⟨q1, q2⟩ := q
          exact ⟨.nm i, ρ, by unfold argS; simp only [z1, if_true], e, ⟨rfl, .inr rfl, _, z1, by subst q1; exact Lm.mo q2 rfl, .inl ⟨_, rfl⟩⟩, fun _ _ => rfl⟩
        | lk d' =>
          have z2 : s = .lk d' := z2; subst z2
          obtain ⟨q1, q2⟩ := q
          exact ⟨.nm i, ρ, by unfold argS; simp only [z1, if_true], e, ⟨rfl, .inr rfl, _, z1, by subst q1; exact Lm.mo q2 rfl, .inr ⟨_, rfl⟩⟩, fun _ _ => rfl⟩
        | _ => exact q.elim
    | false =>
      obtain ⟨q1, q2⟩ := q
      have hz : Ec (E.set i (.fz d)) (ρ.set i (.fz d)) := e.set i rfl
      have fr : ∀ j, j ∉ nmI [.own i] → (ρ.set i (.fz d))[j]? = ρ[j]? := fun j hj => List.getElem?_set_ne fun z => hj (by subst z; simp [nmI])
      have ae : argE [false] [.own i] [d] E = E.set i (.fz d) := rfl
      rw [ae]
      rcases e.rd q1 with z | z | z
      · exact ⟨.fz d, ρ, by unfold argS; simp only [z], by rwa [set_self' z] at hz, ⟨Lm.mo q2 rfl, fun z => nomatch z⟩, fun _ _ => rfl⟩
      · exact ⟨.fz d, _, by unfold argS; simp only [z]; rfl, hz, ⟨Lm.mo q2 rfl, fun z => nomatch z⟩, fr⟩
      · exact ⟨.fz d, _, by unfold argS; simp only [z]; rfl, hz, ⟨Lm.mo q2 rfl, fun z => nomatch z⟩, fr⟩
def ReA : List Bool → List Kd → List Ms → List Sl → List Rs → Prop
  | l :: ls, k :: ks, m :: ms, ρ, r :: rs => Re1 l k m ρ r ∧ ReA ls ks ms ρ rs
  | [], [], [], _, [] => True
  | _, _, _, _, _ => False
theorem argE_cons {l : Bool} {ls : List Bool} : argE (l :: ls) (k :: ks) (d :: ds) E = argE ls ks ds (argE [l] [k] [d] E) := by
  cases l <;> cases k <;> rfl
theorem argE1_ok {l : Bool} {ls : List Bool} {ins outs : List Ms} (h : ArgOk ls ks ds E ins outs) (hn : ∀ j ∈ nmI [k], j ∉ nmI ks) : ArgOk ls ks ds (argE [l] [k] [d] E) ins outs := by
  cases l <;> cases k <;> first | exact h | exact ArgOk.frame h (hn _ (by simp [nmI]))
theorem argSA_k : ∀ {ls : List Bool} {ks : List Kd} {ds : List D} {rs : List Rs} {E ins outs : List Ms} {ρ : List Sl}, KrA ks ds rs → Ec E ρ → ArgOk ls ks ds E ins outs → (nmI ks).Nodup →
    ∃ rs' ρ', argSA ls rs ρ = .ok rs' ρ' ∧ Ec (argE ls ks ds E) ρ' ∧ ReA ls ks ins ρ' rs' ∧ (∀ j, j ∉ nmI ks → ρ'[j]? = ρ[j]?)
  | [], [], [], [], E, [], [], ρ, _, e, _, _ => ⟨[], ρ, rfl, e, trivial, fun _ _ => rfl⟩
  | l :: ls, k :: ks, d :: ds, r :: rs, E, m :: ins, m' :: outs, ρ, h, e, q, hn => by
    rw [nmI_cons, List.nodup_append] at hn
    obtain ⟨hn1, hn2, hn3⟩ := hn
    have hn3' : ∀ j ∈ nmI [k], j ∉ nmI ks := fun j hj z => hn3 j hj j z rfl
    obtain ⟨r', ρ1, e1, c1, w1, f1⟩ := argS_k h.1 e q.1
    obtain ⟨rs', ρ2, e2, c2, w2, f2⟩ := argSA_k h.2 c1 (argE1_ok (l := l) (d := d) q.2 hn3') hn2
    refine ⟨r' :: rs', ρ2, by unfold argSA; rw [bd_eq e1, bd_eq e2]; rfl, by rw [argE_cons]; exact c2, ⟨?_, w2⟩, fun j hj => ?_⟩
    · cases r' with
      | fz _ => exact w1
      | ow _ => exact w1
      | nm i =>
        obtain ⟨w3, w4, s, w5, w6⟩ := w1
        refine ⟨w3, w4, s, ?_, w6⟩
        rw [f2 i (hn3' i (by rcases w4 with w4 | w4 <;> subst w4 <;> simp [nmI]))]; exact w5
    · rw [nmI_cons, List.mem_append] at hj
      rw [f2 j fun z => hj (.inr z), f1 j fun z => hj (.inl z)]
  | [], [], [], _ :: _, _, _, _, _, h, _, _, _ => h.elim
  | [], [], [], [], _, _ :: _, _, _, _, _, h, _ => h.elim
  | [], [], [], [], _, [], _ :: _, _, _, _, h, _ => h.elim
  | _, [], _ :: _, _, _, _, _, _, h, _, _, _ => h.elim
  | _, _ :: _, [], _, _, _, _, _, h, _, _, _ => h.elim
  | _, _ :: _, _ :: _, [], _, _, _, _, h, _, _, _ => h.elim
  | [], _ :: _, _ :: _, _ :: _, _, _, _, _, _, _, h, _ => h.elim
  | _ :: _, [], [], _, _, _, _, _, _, _, h, _ => h.elim
  | _ :: _, _ :: _, _ :: _, _ :: _, _, [], _, _, _, _, h, _ => h.elim
  | _ :: _, _ :: _, _ :: _, _ :: _, _, _ :: _, [], _, _, _, h, _ => h.elim
theorem re_slots : ∀ {ls : List Bool} {ks : List Kd} {ins : List Ms} {rs : List Rs}, ReA ls ks ins ρ rs → Ec ins (rs.map (slotOf ρ)) ∧ rs.all (heldR ρ) = true ∧ ∀ i, (rs.any (isNm i)) = true → i ∈ nmI ks
  | [], [], [], [], _ => ⟨trivial, rfl, fun i h => by simp at h⟩
  | l :: ls, k :: ks, m :: ms, r :: rs, h => by
    obtain ⟨h1, h2⟩ := h
    obtain ⟨q1, q2, q3⟩ := re_slots h2
    rw [List.map_cons, List.all_cons]
    cases r with
    | fz d => exact ⟨⟨h1.1, q1⟩, by rw [q2]; rfl, fun i hi => by rw [nmI_cons, List.mem_append]; exact .inr (q3 i (by simpa [isNm] using hi))⟩
    | ow d => exact ⟨⟨h1.1, q1⟩, by rw [q2]; rfl, fun i hi => by rw [nmI_cons, List.mem_append]; exact .inr (q3 i (by simpa [isNm] using hi))⟩
    | nm j =>
      obtain ⟨_, w4, s, w5, w6, w7⟩ := h1
      refine ⟨⟨by unfold slotOf; simp only [w5]; exact w6, q1⟩, ?_, fun i hi => ?_⟩
      · rw [q2]
        unfold heldR
        rcases w7 with ⟨d, rfl⟩ | ⟨d, rfl⟩ <;> simp only [w5] <;> rfl
      · rw [nmI_cons, List.mem_append]
        rw [List.any_cons, Bool.or_eq_true] at hi
        rcases hi with hi | hi
        · have : i = j := by simpa [isNm] using hi
          subst this
          left; rcases w4 with w4 | w4 <;> subst w4 <;> simp [nmI]
        · exact .inr (q3 i hi)
  | [], [], [], _ :: _, h => h.elim
  | [], [], _ :: _, _, h => h.elim
  | [], _ :: _, _, _, h => h.elim
  | _ :: _, [], _, _, h => h.elim
  | _ :: _, _ :: _, [], _, h => h.elim
  | _ :: _, _ :: _, _ :: _, [], h => h.elim
theorem re_nm : ∀ {ls : List Bool} {ks : List Kd} {ins : List Ms} {rs : List Rs}, ReA ls ks ins ρ rs → (nmI ks).Nodup → nmOk rs = true
  | [], [], [], [], _, _ => rfl
  | l :: ls, k :: ks, m :: ms, r :: rs, h, hn => by
    rw [nmI_cons, List.nodup_append] at hn
    have ih := re_nm h.2 hn.2.1
    cases r with
    | fz d => exact ih
    | ow d => exact ih
    | nm j =>
      obtain ⟨_, w4, _⟩ := h.1
      show (!(rs.any (isNm j)) && nmOk rs) = true
      rw [ih, Bool.and_true, Bool.not_eq_true', Bool.eq_false_iff]
      intro z
      have h1 := (re_slots h.2).2.2 j z
      have h2 : j ∈ nmI [k] := by rcases w4 with w4 | w4 <;> subst w4 <;> simp [nmI]
      exact hn.2.2 j h2 j h1 rfl
  | [], [], [], _ :: _, h, _ => h.elim
  | [], [], _ :: _, _, h, _ => h.elim
  | [], _ :: _, _, _, h, _ => h.elim
  | _ :: _, [], _, _, h, _ => h.elim
  | _ :: _, _ :: _, [], _, h, _ => h.elim
  | _ :: _, _ :: _, _ :: _, [], h, _ => h.elim
theorem wb_k : ∀ {ks : List Kd} {ls : List Bool} {ds : List D} {ins outs : List Ms} {rs : List Rs} {E : List Ms} {ρ0 ρ ρp : List Sl}, ReA ls ks ins ρ0 rs → Ec outs ρp → Ec E ρ → ArgOk ls ks ds E ins outs → (nmI ks).Nodup → Ec (wbE ls ks outs E) (wb rs ρp ρ) := by
  intro ks
  induction ks with
  | nil =>
    intro ls ds ins outs rs E ρ0 ρ ρp h ho e q hn
    have e1 : wbE ls [] outs E = E := by cases ls <;> first | rfl | (rename_i l ls; cases l <;> rfl)
    have e2 : rs = [] := by
      cases ls with
      | nil => cases ins with
        | nil => cases rs with
          | nil => rfl
          | cons _ _ => exact h.elim
        | cons _ _ => exact h.elim
      | cons _ _ => exact h.elim
    rw [e1, e2]; exact e
  | cons k ks ih =>
    intro ls ds ins outs rs E ρ0 ρ ρp h ho e q hn
    cases ls with
    | nil => exact h.elim
    | cons l ls =>
    cases ds with
    | nil => exact q.elim
    | cons d ds =>
    cases ins with
    | nil => exact h.elim
    | cons m ins =>
    cases outs with
    | nil => exact q.elim
    | cons m' outs =>
    cases rs with
    | nil => exact h.elim
    | cons r rs =>
    cases ρp with
    | nil => exact ho.elim
    | cons s ρp =>
    rw [nmI_cons, List.nodup_append] at hn
    obtain ⟨hn1, hn2, hn3⟩ := hn
    have hn3' : ∀ j ∈ nmI [k], j ∉ nmI ks := fun j hj z => hn3 j hj j z rfl
    have triv : (∀ i, (l = true ∧ k = .own i) → False) → Ec E (wb [r] [s] ρ) → Ec (wbE (l :: ls) (k :: ks) (m' :: outs) E) (wb (r :: rs) (s :: ρp) ρ) := fun hk hh => by
      have e1 : wbE (l :: ls) (k :: ks) (m' :: outs) E = wbE ls ks outs E := by
        cases l <;> cases k <;> first | rfl | exact (hk _ ⟨rfl, rfl⟩).elim
      rw [e1]
      have e2 : wb (r :: rs) (s :: ρp) ρ = wb rs ρp (wb [r] [s] ρ) := by cases r <;> rfl
      rw [e2]
      exact ih h.2 ho.2 hh q.2 hn2
    cases r with
    | fz d' => exact triv (fun i z => h.1.2 z.1 i z.2) e
    | ow d' => exact triv (fun i z => h.1.2 i z.2) e
    | nm i =>
      obtain ⟨w3, w4, _⟩ := h.1
      subst w3
      rcases w4 with w4 | w4 <;> subst w4
      · refine triv (fun i z => nomatch z.2) ?_
        have q0 : Nam2 E[i]? d m m' true := q.1
        obtain ⟨q1, q2, q3⟩ := q0
        show Ec E (ρ.set i s)
        have ms : Mo (.rd d) s := Lm.mo q3 ho.1
        cases em : E[i]? with
        | none => rw [em] at q1; exact q1.elim
        | some m0 =>
          rw [em] at q1
          cases m0 with
          | rd d' => have q1 : d' = d := q1; subst q1; exact e.setR em ms
          | _ => exact q1.elim
      · show Ec (wbE ls ks outs (E.set i m')) (wb rs ρp (ρ.set i s))
        exact ih h.2 ho.2 (e.set i ho.1) (ArgOk.frame q.2 (hn3' i (by simp [nmI]))) hn2
theorem argE_okA : ∀ {ks : List Kd} {ls : List Bool} {ds : List D} {ins outs : List Ms} {E : List Ms}, ArgOk ls ks ds E ins outs → (nmI ks).Nodup → ArgOk ls ks ds (argE ls ks ds E) ins outs := by
  intro ks
  induction ks with
  | nil =>
    intro ls ds ins outs E q hn
    cases ls with
    | nil => exact q
    | cons l ls => cases ds <;> exact q.elim
  | cons k ks ih =>
    intro ls ds ins outs E q hn
    cases ls with
    | nil => exact q.elim
    | cons l ls =>
    cases ds with
    | nil => exact q.elim
    | cons d ds =>
    cases ins with
    | nil => exact q.elim
    | cons m ins =>
    cases outs with
    | nil => exact q.elim
    | cons m' outs =>
    rw [nmI_cons, List.nodup_append] at hn
    obtain ⟨hn1, hn2, hn3⟩ := hn
    have hn3' : ∀ j ∈ nmI [k], j ∉ nmI ks := fun j hj z => hn3 j hj j z rfl
    rw [argE_cons]
    have h1 := argE1_ok (l := l) (d := d) q.2 hn3'
    refine ⟨?_, ih h1 hn2⟩
    -- the first one through all
    have key : ∀ {ks : List Kd} {ls : List Bool} {ds : List D} {E : List Ms}, (∀ j ∈ nmI [k], j ∉ nmI ks) → Arg1 l k d E m m' → Arg1 l k d (argE ls ks ds E) m m' := by
      intro ks
      induction ks with
      | nil => intro ls ds E _ h; cases ls with
        | nil => exact h
        | cons l' ls => cases l' <;> exact h
      | cons k' ks ih2 =>
        intro ls ds E hj h
        cases ls with
        | nil => exact h
        | cons l' ls =>
          cases ds with
          | nil => cases l' <;> cases k' <;> exact h
          | cons d' ds =>
            rw [argE_cons]
            refine ih2 (fun j hj' z => hj j hj' (by rw [nmI_cons, List.mem_append]; exact .inr z)) ?_
            cases l' <;> cases k' <;> first | exact h | exact Arg1.frame h fun j hj' z => hj j hj' (by subst z; simp [nmI])
    refine key hn3' ?_
    have q1 := q.1
    cases l <;> cases k <;> first | exact q1 | skip
    rename_i i
    obtain ⟨q1, q2⟩ := q1
    refine ⟨?_, q2⟩
    show RdM (E.set i (.fz d))[i]? d
    exact RdM.set q1 q1
theorem ev_call {ls : List Bool} {sem : M Rs} {ins outs : List Ms} (hs : Ev ins sem k d outs) (ha : Ea E f ks ds E1) (hr : ArgOk ls ks ds E1 ins outs) (hn : (nmI ks).Nodup := by decide) (hk : ∀ d E, Rdk k d E := by intro _ _; exact True.intro) :
    Ev E (dCall ls sem f) k d (wbE ls ks outs (argE ls ks ds E1)) := ⟨hk _ _, fun ρ e => by
  obtain ⟨rs, ρ1, e1, q1, c1⟩ := ha ρ e
  obtain ⟨rs', ρ2, e2, c2, w2, _⟩ := argSA_k q1 c1 hr hn
  obtain ⟨z1, z2, _⟩ := re_slots w2
  obtain ⟨r, ρp, e3, q3, c3⟩ := hs.2 _ z1
  have hb := wb_k w2 c3 c2 (argE_okA hr hn) hn
  have hnm := re_nm w2 hn
  have go : ∀ (hh : (∃ d', r = .fz d') ∨ ∃ d', r = .ow d'), dCall ls sem f ρ = .ok r (wb rs' ρp ρ2) := fun hh => by
    unfold dCall
    rw [bd_eq e1, bd_eq e2]
    rw [if_pos (by rw [hnm, z2]; rfl)]
    rcases hh with ⟨d', rfl⟩ | ⟨d', rfl⟩ <;> simp only [e3]
  refine ⟨r, _, go ?_, q3, hb⟩
  cases k with
  | val => exact .inl ⟨_, q3⟩
  | new => exact .inr ⟨_, q3⟩
  | vn => exact q3.imp (fun z => ⟨_, z⟩) fun z => ⟨_, z⟩
  | nam i => exact (hk (.bool true) []).elim
  | own i => exact (hk (.bool true) []).elim⟩
end
end TL
namespace TL
open PySem L2 DL
section
variable {E E1 E2 E3 : List Ms} {m a b c e fi fe : M Rs} {k ka kb kc : Kd} {d d0 d1 d' dn da db dc : D} {i j : Nat} {f : M (List Rs)} {ks : List Kd} {ds : List D} {τ : Type} {P : τ → SR → Prop} {rest s s1 s2 body : DS} {v x y : τ} {li : Lki} {l : Option Nat} {ρ ρ1 ρ2 : List Sl}
/-- values told once, in the slots, too -/
theorem sg_gen {α : Type} (Ef : α → List Ms) {x : α} {o : α → τ} (h : ∀ y, y = x → Sg (Ef y) s P (o y)) : Sg (Ef x) s P (Let x o) := h x rfl
theorem Ec.own (h : Ec E ρ) (e : E[i]? = some (.ow d)) : ρ[i]? = some (.ow d) := by
  obtain ⟨s, e1, e2⟩ := h.get e
  have e2 : s = .ow d := e2; subst e2; exact e1
theorem Ec.good (h : Ec E ρ) (e : E[i]? = some (.fz d)) : ρ[i]? = some (.fz d) := by
  obtain ⟨s, e1, e2⟩ := h.get e
  have e2 : s = .fz d := e2; subst e2; exact e1
/-- a method that changes the list of a slot -/
theorem ev_mut {cc : D → Bool} {g : D → List D → Option (D × D)} {res : D} (hi : E[i]? = some (.ow d0)) (hc : cc d0 = true) (ha : Ea E f ks ds E1) (hr : RdkA ks ds E1) (hi1 : (frzEA ks ds E1)[i]? = some (.ow d1)) (hg : g d1 ds = some (d', res)) :
    Ev E (dMut i cc true g f) .val res ((frzEA ks ds E1).set i (.ow d')) := ⟨trivial, fun ρ q => by
  obtain ⟨rs, ρ1, e1, q1, c1⟩ := ha ρ q
  obtain ⟨ρ2, e2, c2⟩ := frzA_k q1 hr c1
  refine ⟨.fz res, ρ2.set i (.ow d'), ?_, rfl, c2.set i rfl⟩
  unfold dMut
  simp only [q.own hi, hc, if_true]
  rw [bd_eq e1, bd_eq e2]
  simp only [c2.own hi1, hg]⟩
theorem ev_mutL {cc : D → Bool} {g : D → List D → Option (D × D)} {res : D} (hi : E[i]? = some (.ow d0)) (hc : cc d0 = true) (ha : Ea E f ks ds E1) (hr : RdkA ks ds E1) (hi1 : E1[i]? = some (.ow d1)) (hg : g d1 ds = some (d', res)) :
    Ev E (dMut i cc false g f) .val res (E1.set i (.ow d')) := ⟨trivial, fun ρ q => by
  obtain ⟨rs, ρ1, e1, q1, c1⟩ := ha ρ q
  refine ⟨.fz res, ρ1.set i (.ow d'), ?_, rfl, c1.set i rfl⟩
  unfold dMut
  simp only [q.own hi, hc, if_true]
  rw [bd_eq e1]
  simp only [Bool.false_eq_true, if_false]
  rw [bd_eq (lookA_k q1 hr c1)]
  simp only [c1.own hi1, hg]⟩
/-- x += v -/
theorem sg_aug {g : G2} (hi : E[i]? = some (.fz da)) (he : Ev E fe k d E1) (hg : g da d = some (.fz dn)) (h : Sg (E1.set i (.fz dn)) rest P v) (hl : i < E1.length := by first | decide | exact of_decide_eq_true rfl) : Sg E (dSeq (dAug g i fe) rest) P v := fun ρ q => by
  obtain ⟨r, ρ1, e1, q1, c1⟩ := he.2 ρ q
  have e5 : bd fe look ρ = .ok d ρ1 := by rw [bd_eq e1]; exact look_k q1 he.1 c1
  have hl' : i < ρ1.length := by rw [← c1.len]; exact hl
  rw [seq_nx (ρ1 := ρ1.set i (.fz dn)) (by unfold dAug; simp only [q.good hi, e5, hg]; rw [if_pos hl'])]
  exact h _ (c1.set i rfl)
/-- a, b = x, y -/
def parE : List Nat → List Kd → List D → List Ms → List Ms
  | i :: is, .new :: ks, d :: ds, E => parE is ks ds (E.set i (.ow d))
  | i :: is, .vn :: ks, d :: ds, E => parE is ks ds (E.set i (.rd d))
  | i :: is, _ :: ks, d :: ds, E => parE is ks ds (E.set i (.fz d))
  | _, _, _, E => E
def argF : List Kd → List D → List Ms → List Ms
  | .own i :: ks, d :: ds, E => argF ks ds (E.set i (.fz d))
  | _ :: ks, _ :: ds, E => argF ks ds E
  | _, _, E => E
def Kp : Kd → D → Rs → Prop
  | .new, d, r => r = .ow d
  | .vn, d, r => r = .fz d ∨ r = .ow d
  | _, d, r => r = .fz d
def KpA : List Kd → List D → List Rs → Prop
  | [], [], [] => True
  | k :: ks, d :: ds, r :: rs => Kp k d r ∧ KpA ks ds rs
  | _, _, _ => False
theorem par_args : ∀ {ks : List Kd} {ds : List D} {rs : List Rs} {is : List Nat} {E : List Ms} {ρ : List Sl}, is.length = ks.length → KrA ks ds rs → RdkA ks ds E → Ec E ρ → ∃ rs' ρ', argSA (is.map fun _ => false) rs ρ = .ok rs' ρ' ∧ KpA ks ds rs' ∧ Ec (argF ks ds E) ρ' := by
  intro ks
  induction ks with
  | nil =>
    intro ds rs is E ρ hl h q e
    cases is with
    | cons _ _ => simp at hl
    | nil =>
      cases ds with
      | cons _ _ => exact h.elim
      | nil => cases rs with
        | cons _ _ => exact h.elim
        | nil => exact ⟨[], ρ, rfl, trivial, e⟩
  | cons k ks ih =>
    intro ds rs is E ρ hl h q e
    cases is with
    | nil => simp at hl
    | cons i0 is =>
    cases ds with
    | nil => exact h.elim
    | cons d ds =>
    cases rs with
    | nil => exact h.elim
    | cons r rs =>
    have step : ∀ r' ρ1 E1, argS false r ρ = .ok r' ρ1 → Kp k d r' → Ec E1 ρ1 → RdkA ks ds E1 → argF (k :: ks) (d :: ds) E = argF ks ds E1 → ∃ rs' ρ', argSA ((i0 :: is).map fun _ => false) (r :: rs) ρ = .ok rs' ρ' ∧ KpA (k :: ks) (d :: ds) rs' ∧ Ec (argF (k :: ks) (d :: ds) E) ρ' := fun r' ρ1 E1 e1 p1 c1 q1 ez => by
      obtain ⟨rs', ρ2, e2, p2, c2⟩ := ih (is := is) (by simpa using hl) h.2 q1 c1
      exact ⟨r' :: rs', ρ2, by rw [List.map_cons]; unfold argSA; rw [bd_eq e1, bd_eq e2]; rfl, ⟨p1, p2⟩, by rw [ez]; exact c2⟩
    have h1 := h.1
    cases k with
    | val => have h1 : r = .fz d := h1; subst h1; exact step _ _ E rfl rfl e q.2 rfl
    | new => have h1 : r = .ow d := h1; subst h1; exact step _ _ E rfl rfl e q.2 rfl
    | vn => rcases h1 with h1 | h1 <;> subst h1
            · exact step _ _ E rfl (.inl rfl) e q.2 rfl
            · exact step _ _ E rfl (.inr rfl) e q.2 rfl
    | nam i =>
      obtain ⟨ρ1, e1, c1⟩ := frz_k (r := r) h1 q.1 e
      refine step (.fz d) ρ1 E ?_ rfl c1 q.2 rfl
      rcases h1 with h1 | h1 <;> subst h1
      · cases e1; rfl
      · unfold frz at e1; unfold argS
        simp only at e1 ⊢
        rcases e.rd (RdR.m q.1) with z | z | z <;> simp only [z] at e1 ⊢ <;> cases e1 <;> rfl
    | own i =>
      obtain ⟨ρ1, e1, c1⟩ := frz_k (r := r) h1 q.1 e
      refine step (.fz d) ρ1 (E.set i (.fz d)) ?_ rfl c1 (RdkA.frz (k' := .own i) q.1 q.2) rfl
      have h1 : r = .nm i := h1
      subst h1
      unfold frz at e1; unfold argS
      simp only at e1 ⊢
      rcases e.rd q.1 with z | z | z <;> simp only [z] at e1 ⊢ <;> cases e1 <;> rfl
theorem par_set : ∀ {is : List Nat} {ks : List Kd} {ds : List D} {rs : List Rs} {E : List Ms} {ρ : List Sl}, is.length = ks.length → KpA ks ds rs → Ec E ρ → (∀ i ∈ is, i < E.length) → ∃ ρ', setQs is rs ρ = some ρ' ∧ Ec (parE is ks ds E) ρ' := by
  intro is
  induction is with
  | nil =>
    intro ks ds rs E ρ hl h e _
    cases ks with
    | cons _ _ => simp at hl
    | nil => cases ds with
      | cons _ _ => exact h.elim
      | nil => cases rs with
        | cons _ _ => exact h.elim
        | nil => exact ⟨ρ, rfl, e⟩
  | cons i is ih =>
    intro ks ds rs E ρ hl h e hb
    cases ks with
    | nil => simp at hl
    | cons k ks =>
    cases ds with
    | nil => exact h.elim
    | cons d ds =>
    cases rs with
    | nil => exact h.elim
    | cons r rs =>
    have hi : i < ρ.length := by rw [← e.len]; exact hb i (by simp)
    have step : ∀ m s, Mo m s → setQ i r ρ = some (ρ.set i s) → parE (i :: is) (k :: ks) (d :: ds) E = parE is ks ds (E.set i m) → ∃ ρ', setQs (i :: is) (r :: rs) ρ = some ρ' ∧ Ec (parE (i :: is) (k :: ks) (d :: ds) E) ρ' := fun m s hm es ep => by
      obtain ⟨ρ', e1, c1⟩ := ih (E := E.set i m) (ρ := ρ.set i s) (ks := ks) (ds := ds) (by simpa using hl) h.2 (e.set i hm) fun j hj => by rw [List.length_set]; exact hb j (by simp [hj])
      exact ⟨ρ', by unfold setQs; simp only [es]; exact e1, by rw [ep]; exact c1⟩
    have h1 := h.1
    have sf : setQ i (.fz d) ρ = some (ρ.set i (.fz d)) := if_pos hi
    have so : setQ i (.ow d) ρ = some (ρ.set i (.ow d)) := if_pos hi
    cases k with
    | val => have h1 : r = .fz d := h1; subst h1; exact step (.fz d) _ rfl sf rfl
    | new => have h1 : r = .ow d := h1; subst h1; exact step (.ow d) _ rfl so rfl
    | vn => rcases h1 with h1 | h1 <;> subst h1
            · exact step (.rd d) _ (.inl rfl) sf rfl
            · exact step (.rd d) _ (.inr (.inl rfl)) so rfl
    | nam _ => have h1 : r = .fz d := h1; subst h1; exact step (.fz d) _ rfl sf rfl
    | own _ => have h1 : r = .fz d := h1; subst h1; exact step (.fz d) _ rfl sf rfl
theorem argF_len : ∀ {ks : List Kd} {ds : List D} {E : List Ms}, (argF ks ds E).length = E.length
  | [], _, _ => by unfold argF; rfl
  | k :: _, [], E => by cases k <;> rfl
  | k :: ks, d :: ds, E => by cases k <;> (unfold argF; rw [argF_len]) <;> simp
theorem sg_par {is : List Nat} (ha : Ea E f ks ds E1) (hr : RdkA ks ds E1) (h : Sg (parE is ks ds (argF ks ds E1)) rest P v) (hl : is.length = ks.length := by rfl) (hb : ∀ i ∈ is, i < E1.length := by first | decide | exact of_decide_eq_true rfl) : Sg E (dSeq (dPar is f) rest) P v := fun ρ q => by
  obtain ⟨rs, ρ1, e1, q1, c1⟩ := ha ρ q
  obtain ⟨rs', ρ2, e2, p2, c2⟩ := par_args (is := is) hl q1 hr c1
  obtain ⟨ρ3, e3, c3⟩ := par_set hl p2 c2 fun i hi => by rw [argF_len]; exact hb i hi
  rw [seq_nx (ρ1 := ρ3) (by unfold dPar; rw [bd_eq e1, e2]; simp only [e3])]
  exact h _ c3
/-! dicts told in full -/
def Eps (E : List Ms) (ps : List (M Rs × M Rs)) (kks : List Key) (ks : List Kd) (ds : List D) (E' : List Ms) : Prop := ∀ ρ, Ec E ρ → ∃ rs ρ', dPairs ps ρ = .ok (kks.zip rs) ρ' ∧ rs.length = kks.length ∧ KrA ks ds rs ∧ Ec E' ρ'
theorem eps_nil : Eps E [] [] [] [] E := fun ρ e => ⟨[], ρ, rfl, rfl, trivial, e⟩
theorem eps_cons {ps : List (M Rs × M Rs)} {kks : List Key} {kk : Key} (hk : Ev E fi kb dc E1) (hkey : keyOf dc = some kk) (he : Ev E1 fe k d E2) (h : Eps E2 ps kks ks ds E3) : Eps E ((fi, fe) :: ps) (kk :: kks) (k :: ks) (d :: ds) E3 := fun ρ q => by
  obtain ⟨rk, ρ1, e1, q1, c1⟩ := hk.2 ρ q
  have e4 : dKey fi ρ = .ok kk ρ1 := by unfold dKey; rw [bd_eq e1, bd_eq (look_k q1 hk.1 c1)]; exact opt_eq hkey
  obtain ⟨r, ρ2, e2, q2, c2⟩ := he.2 ρ1 c1
  obtain ⟨rs, ρ3, e3, e5, q3, c3⟩ := h ρ2 c2
  exact ⟨r :: rs, ρ3, by unfold dPairs; rw [bd_eq e4, bd_eq e2, bd_eq e3]; rfl, by simp [e5], ⟨q2, q3⟩, c3⟩
theorem zip_1 : ∀ {kks : List Key} {rs : List Rs}, rs.length = kks.length → (kks.zip rs).map (·.1) = kks ∧ (kks.zip rs).map (·.2) = rs
  | [], [], _ => ⟨rfl, rfl⟩
  | [], _ :: _, h => by simp at h
  | _ :: _, [], h => by simp at h
  | _ :: _, _ :: _, h => by
    obtain ⟨h1, h2⟩ := zip_1 (by simpa using h)
    exact ⟨by rw [List.zip_cons_cons, List.map_cons, h1], by rw [List.zip_cons_cons, List.map_cons, h2]⟩
theorem ev_disp {ps : List (M Rs × M Rs)} {kks : List Key} {kvs : List (D × D)} (h : Eps E ps kks ks ds E1) (hr : RdkA ks ds E1) (hd : (kks.zip ds).foldl (fun acc kv => dput kv.1 kv.2 acc) [] = kvs) (hl : kks.length ≤ 15 := by decide) : Ev E (dDisp ps) .new (.dict kvs) (frzEA ks ds E1) := ⟨trivial, fun ρ q => by
  obtain ⟨rs, ρ1, e1, l1, q1, c1⟩ := h ρ q
  obtain ⟨ρ2, e2, c2⟩ := frzA_k q1 hr c1
  obtain ⟨z1, z2⟩ := zip_1 l1
  refine ⟨_, ρ2, ?_, rfl, c2⟩
  unfold dDisp
  rw [bd_eq e1]
  simp only [z1, z2]
  rw [bd_eq e2, if_pos (by rw [List.length_zip, l1]; simpa using hl), hd]; rfl⟩
/-! slices, ranges as lists, times -/
def Ep (E : List Ms) (p : M (Option Int)) (o : Option Int) (E' : List Ms) : Prop := ∀ ρ, Ec E ρ → ∃ ρ', p ρ = .ok o ρ' ∧ Ec E' ρ'
theorem ep_no : Ep E dNoP none E := fun ρ q => ⟨ρ, rfl, q⟩
theorem ep_part {n : Int} (ha : Ev E a k (.int n) E1) : Ep E (dPart a) (some n) E1 := fun ρ q => by
  obtain ⟨r, ρ1, e1, q1, c1⟩ := ha.2 ρ q
  refine ⟨ρ1, ?_, c1⟩
  unfold dPart
  rw [bd_eq e1, bd_eq (look_k q1 ha.1 c1)]; rfl
theorem ev_sl {lo hi : M (Option Int)} {ol oh : Option Int} {r : Rs} (ha : Ev E a k d E1) (h1 : Ep E1 lo ol E2) (h2 : Ep E2 hi oh E3) (hg : gSl d ol oh = some r) (hk : Rk r kb d') (hr : Rdk k d E3 := by repeat (first | exact True.intro | exact rfl | apply And.intro)) : Ev E (dSl a lo hi) kb d' E3 := ⟨hk.kr.2 _, fun ρ q => by
  obtain ⟨ra, ρ1, e1, q1, c1⟩ := ha.2 ρ q
  obtain ⟨ρ2, e2, c2⟩ := h1 ρ1 c1
  obtain ⟨ρ3, e3, c3⟩ := h2 ρ2 c2
  refine ⟨r, ρ3, ?_, hk.kr.1, c3⟩
  unfold dSl
  rw [bd_eq e1, bd_eq e2, bd_eq e3, bd_eq (look_k q1 hr c3)]
  exact opt_eq hg⟩
theorem ev_me {cc : D → Bool} {g : D → List D → Option Rs} {r : Rs} (ha : Ev E a k d E1) (hc : cc d = true) (hf : Ea E1 f ks ds E2) (hr : RdkA ks ds E2) (hg : g d ds = some r) (hk : Rk r kb d') (hr1 : Rdk k d E2 := by repeat (first | exact True.intro | exact rfl | apply And.intro)) : Ev E (dMe cc g a f) kb d' E2 := ⟨hk.kr.2 _, fun ρ q => by
  obtain ⟨ra, ρ1, e1, q1, c1⟩ := ha.2 ρ q
  obtain ⟨rs, ρ2, e2, q2, c2⟩ := hf ρ1 c1
  refine ⟨r, ρ2, ?_, hk.kr.1, c2⟩
  unfold dMe
  rw [bd_eq e1, bd_eq (look_k q1 ha.1 c1), if_pos hc, bd_eq e2, bd_eq (look_k q1 hr1 c2), bd_eq (lookA_k q2 hr c2)]
  exact opt_eq hg⟩
end
end TL
/-! TL6: encoders, typed operations -/
namespace TL
open PySem L2 DL
abbrev OkS := { x : Str // PyData.strOk x = true }
abbrev eI : Int → D := PyData.int
abbrev eN (k : Nat) : D := .int (k : Int)
abbrev eB : Bool → D := PyData.bool
abbrev eS (x : OkS) : D := .str x.1
abbrev eL {α : Type} (e : α → D) (xs : List α) : D := .list (xs.map e)
abbrev eT {α : Type} (e : α → D) (xs : List α) : D := .tuple (xs.map e)
abbrev e1 {α : Type} (a : α → D) (p : α) : D := .tuple [a p]
abbrev e2 {α β : Type} (a : α → D) (b : β → D) (p : α × β) : D := .tuple [a p.1, b p.2]
abbrev e3 {α β γ : Type} (a : α → D) (b : β → D) (c : γ → D) (p : α × β × γ) : D := .tuple [a p.1, b p.2.1, c p.2.2]
abbrev e4 {α β γ δ : Type} (a : α → D) (b : β → D) (c : γ → D) (d : δ → D) (p : α × β × γ × δ) : D := .tuple [a p.1, b p.2.1, c p.2.2.1, d p.2.2.2]
abbrev e5 {α β γ δ ε : Type} (a : α → D) (b : β → D) (c : γ → D) (d : δ → D) (e : ε → D) (p : α × β × γ × δ × ε) : D := .tuple [a p.1, b p.2.1, c p.2.2.1, d p.2.2.2.1, e p.2.2.2.2]
abbrev e6 {α β γ δ ε ζ : Type} (a : α → D) (b : β → D) (c : γ → D) (d : δ → D) (e : ε → D) (f : ζ → D) (p : α × β × γ × δ × ε × ζ) : D := .tuple [a p.1, b p.2.1, c p.2.2.1, d p.2.2.2.1, e p.2.2.2.2.1, f p.2.2.2.2.2]
def eO {α : Type} (e : α → D) : Option α → D
  | none => .none
  | some a => e a
def okS (x : Str) (h : PyData.strOk x = true := by decide +kernel) : OkS := ⟨x, h⟩
/-- equality of data is equality of values; data of a depth -/
structure Gd {α : Type} [DecidableEq α] (n : Nat) (enc : α → D) : Prop where
  e : EqE enc
  f : ∀ a, fine n (enc a)
section
variable {α β γ δ ε : Type} [DecidableEq α] [DecidableEq β] [DecidableEq γ] [DecidableEq δ] [DecidableEq ε] {n : Nat} {ea : α → D} {eb : β → D} {ec : γ → D} {ed : δ → D} {ee : ε → D}
theorem gd_nat : Gd n eN := ⟨eqE_nat, fun _ => fine_i⟩
theorem gd_str : Gd n eS := ⟨fun a b => by
  show PyData.eqv (.str a.1) (.str b.1) = _
  rw [eqv_s]
  exact decide_eq_decide.mpr Subtype.ext_iff.symm, fun a => fine_s a.2⟩
theorem gd_list (h : Gd n ea) : Gd (n + 1) (eL ea) := ⟨eqE_lst h.e, fun _ => fine_lm fun x _ => h.f x⟩
theorem gd_tl (h : Gd n ea) : Gd (n + 1) (eT ea) := ⟨eqE_tup h.e, fun _ => fine_tm fun x _ => h.f x⟩
theorem gd_2 (ha : Gd n ea) (hb : Gd n eb) : Gd (n + 1) (e2 ea eb) := ⟨eqE_pair ha.e hb.e, fun p => fine_t fun d hd => by
  simp at hd; rcases hd with z | z <;> subst z
  · exact ha.f _
  · exact hb.f _⟩
theorem Gd.le {m : Nat} (h : Gd n ea) (hm : n ≤ m) : Gd m ea := ⟨h.e, fun a => fine_le (h.f a) hm⟩
theorem isNone_eO (hn : ∀ a, isNone (ea a) = false) (o : Option α) : isNone (eO ea o) = o.isNone := by cases o; rfl; exact hn _
theorem eO_get (df : α) {o : Option α} (h : o.isNone = false) : eO ea o = ea (o.getD df) := by cases o; cases h; rfl
theorem gIs_O (hn : ∀ a, isNone (ea a) = false) {o : Option α} : gIs (eO ea o) .none = some o.isNone := by rw [gIs_none, isNone_eO hn]
theorem gIsNot_O (hn : ∀ a, isNone (ea a) = false) {o : Option α} : gIsNot (eO ea o) .none = some (!o.isNone) := by unfold gIsNot; rw [gIs_O hn]; rfl
/-! comparisons -/
theorem dec_any {p : Prop} (i j : Decidable p) : @decide p i = @decide p j := by rw [Subsingleton.elim i j]
theorem gEq_g (h : Gd n ea) (hn : n ≤ 62 := by decide) {a b : α} {i : Decidable (a = b)} : gEq (ea a) (ea b) = some (@decide (a = b) i) := (gEq_e h.e (by omega) (h.f a) (h.f b)).trans (congrArg some (dec_any _ _))
theorem gNe_g (h : Gd n ea) (hn : n ≤ 62 := by decide) {a b : α} {i : Decidable (a = b)} : gNe (ea a) (ea b) = some (!@decide (a = b) i) := gNe_of (gEq_g h hn)
theorem gIn_gl (h : Gd n ea) (hn : n ≤ 62 := by decide) {a : α} {xs : List α} {i : Decidable (a ∈ xs)} : gIn (ea a) (.list (xs.map ea)) = some (@decide (a ∈ xs) i) := (gIn_l h.e (n := n) (by omega) (h.f a) fun x _ => h.f x).trans (congrArg some (dec_any _ _))
theorem gNotIn_gl (h : Gd n ea) (hn : n ≤ 62 := by decide) {a : α} {xs : List α} {i : Decidable (a ∈ xs)} : gNotIn (ea a) (.list (xs.map ea)) = some (!@decide (a ∈ xs) i) := gNotIn_of (gIn_gl h hn)
end
section
variable {i j : Int} {k l : Nat}
theorem gEq_nn : gEq (.int (k : Nat)) (.int (l : Nat)) = some (decide (k = l)) := by rw [gEq_ii]; exact congrArg some (decide_eq_decide.mpr (by omega))
theorem gNe_nn : gNe (.int (k : Nat)) (.int (l : Nat)) = some (!decide (k = l)) := gNe_of gEq_nn
theorem gLt_nn : gLt (.int (k : Nat)) (.int (l : Nat)) = some (decide (k < l)) := by rw [gLt_ii]; exact congrArg some (decide_eq_decide.mpr (by omega))
theorem gGt_nn : gGt (.int (k : Nat)) (.int (l : Nat)) = some (decide (l < k)) := by rw [gGt_ii]; exact congrArg some (decide_eq_decide.mpr (by omega))
end
section
variable {E E1 E2 E3 : List Ms} {a b : M Rs} {k ka kb : Kd} {d d' da db : D} {f : M (List Rs)} {ks : List Kd} {ds : List D}
theorem ev_op2v {g : G2} (ha : Ev E a ka da E1) (hb : Ev E1 b kb db E2) (hg : g da db = some (.fz d)) (hr : Rdk ka da E2 := by repeat (first | exact True.intro | exact rfl | apply And.intro)) : Ev E (dOp2 g a b) .val d E2 := ev_op2 (r := .fz d) ha hb hg rfl hr
theorem ev_op2o {g : G2} (ha : Ev E a ka da E1) (hb : Ev E1 b kb db E2) (hg : g da db = some (.ow d)) (hr : Rdk ka da E2 := by repeat (first | exact True.intro | exact rfl | apply And.intro)) : Ev E (dOp2 g a b) .new d E2 := ev_op2 (r := .ow d) ha hb hg rfl hr
theorem ev_op1v {g : D → Option Rs} (ha : Ev E a ka da E1) (hg : g da = some (.fz d)) : Ev E (dOp1 g a) .val d E1 := ev_op1 (r := .fz d) ha hg rfl
theorem ev_B1v {g : List D → Option Rs} (ha : Ev E a ka da E1) (hg : g [da] = some (.fz d)) : Ev E (dB g (dCons a dNil)) .val d E1 := ev_B1 (r := .fz d) ha hg rfl
theorem ev_slv {lo hi : M (Option Int)} {ol oh : Option Int} (ha : Ev E a k d E1) (h1 : Ep E1 lo ol E2) (h2 : Ep E2 hi oh E3) (hg : gSl d ol oh = some (.fz d')) (hr : Rdk k d E3 := by repeat (first | exact True.intro | exact rfl | apply And.intro)) : Ev E (dSl a lo hi) .val d' E3 := ev_sl (r := .fz d') ha h1 h2 hg rfl hr
end
/-! operations -/
section
variable {E E1 E2 E3 : List Ms} {m a b c e fi fe : M Rs} {k ka kb kc : Kd} {x y : Int} {p q : Nat} {α β : Type} {enc : α → D} {xs ys : List α}
theorem ev_subI (ha : Ev E a ka (.int x) E1) (hb : Ev E1 b kb (.int y) E2) (hr : Rdk ka (.int x) E2 := by repeat (first | exact True.intro | exact rfl | apply And.intro)) : Ev E (dOp2 gSub a b) .val (.int (x - y)) E2 := ev_op2v ha hb gSub_ii hr
theorem ev_negI (ha : Ev E a ka (.int x) E1) : Ev E (dOp1 gNeg a) .val (.int (-x)) E1 := ev_op1v ha gNeg_i
theorem ev_addL (ha : Ev E a ka (.list (xs.map enc)) E1) (hb : Ev E1 b kb (.list (ys.map enc)) E2) (h : xs.length + ys.length ≤ 16777216) (hr : Rdk ka (.list (xs.map enc)) E2 := by repeat (first | exact True.intro | exact rfl | apply And.intro)) : Ev E (dOp2 gAdd a b) .new (.list ((xs ++ ys).map enc)) E2 := (ev_op2o ha hb (gAdd_ll (by rw [List.length_map, List.length_map, sizeLine_eq]; exact h)) hr).eq (by rw [List.map_append])
theorem ev_addT (ha : Ev E a ka (.tuple (xs.map enc)) E1) (hb : Ev E1 b kb (.tuple (ys.map enc)) E2) (h : xs.length + ys.length ≤ 16777216) (hr : Rdk ka (.tuple (xs.map enc)) E2 := by repeat (first | exact True.intro | exact rfl | apply And.intro)) : Ev E (dOp2 gAdd a b) .val (.tuple ((xs ++ ys).map enc)) E2 := (ev_op2v ha hb (gAdd_tt (by rw [List.length_map, List.length_map, sizeLine_eq]; exact h)) hr).eq (by rw [List.map_append])
theorem ev_lenL (ha : Ev E a k (.list (xs.map enc)) E1) : Ev E (dB gLen (dCons a dNil)) .val (.int (xs.length : Nat)) E1 := (ev_B1v ha gLen_l).eq (by rw [List.length_map])
theorem ev_lenT (ha : Ev E a k (.tuple (xs.map enc)) E1) : Ev E (dB gLen (dCons a dNil)) .val (.int (xs.length : Nat)) E1 := (ev_B1v ha gLen_t).eq (by rw [List.length_map])
theorem ev_tupL (ha : Ev E a k (.list (xs.map enc)) E1) : Ev E (dB gTuple (dCons a dNil)) .val (.tuple (xs.map enc)) E1 := ev_B1v ha gTuple_l
theorem map_nat {ns : List Nat} : ns.map eN = (ns.map fun k : Nat => (k : Int)).map .int := by rw [List.map_map]; rfl
theorem ev_minL {ns : List Int} (ha : Ev E a k (.list (ns.map .int)) E1) (h : ns ≠ []) : Ev E (dB gMin (dCons a dNil)) .val (.int (minL ns)) E1 := ev_B1v ha (gMin_l h)
theorem ev_allB {bs : List Bool} (ha : Ev E a k (.list (bs.map .bool)) E1) : Ev E (dB gAll (dCons a dNil)) .val (.bool (bs.all id)) E1 := ev_B1v ha gAll_l
/-! items -/
theorem getD_lt {k : Nat} (h : k < xs.length) (df : α) : xs.getD k df = xs[k] := by rw [List.getD_eq_getElem?_getD, List.getElem?_eq_getElem h]; rfl
theorem ev_ixLN (df : α) (ha : Ev E a ka (.list (xs.map enc)) E1) (hb : Ev E1 b kb (.int (p : Nat)) E2) (h : p < xs.length) (hr : Rdk ka (.list (xs.map enc)) E2 := by repeat (first | exact True.intro | exact rfl | apply And.intro)) : Ev E (dOp2 gIx a b) .val (enc (xs.getD p df)) E2 := (ev_op2v ha hb (gIx_lm h) hr).eq (by rw [getD_lt h])
theorem ev_ixTN (df : α) (ha : Ev E a ka (.tuple (xs.map enc)) E1) (hb : Ev E1 b kb (.int (p : Nat)) E2) (h : p < xs.length) (hr : Rdk ka (.tuple (xs.map enc)) E2 := by repeat (first | exact True.intro | exact rfl | apply And.intro)) : Ev E (dOp2 gIx a b) .val (enc (xs.getD p df)) E2 := (ev_op2v ha hb (gIx_tm h) hr).eq (by rw [getD_lt h])
theorem ev_ixLI (df : α) (ha : Ev E a ka (.list (xs.map enc)) E1) (hb : Ev E1 b kb (.int x) E2) (h0 : 0 ≤ x) (h : x.toNat < xs.length) (hr : Rdk ka (.list (xs.map enc)) E2 := by repeat (first | exact True.intro | exact rfl | apply And.intro)) : Ev E (dOp2 gIx a b) .val (enc (xs.getD x.toNat df)) E2 := ev_ixLN df ha (hb.eq (by rw [Int.toNat_of_nonneg h0])) h hr
theorem last_split (df : α) (h : xs ≠ []) : xs = xs.dropLast ++ [xs.getLastD df] := by
  rw [List.getLastD_eq_getLast?, List.getLast?_eq_some_getLast h]
  exact (List.dropLast_concat_getLast h).symm
theorem ev_ixTZ (df : α) (ha : Ev E a ka (.tuple (xs.map enc)) E1) (hb : Ev E1 b kb (.int (-1)) E2) (h : xs ≠ []) (hr : Rdk ka (.tuple (xs.map enc)) E2 := by repeat (first | exact True.intro | exact rfl | apply And.intro)) : Ev E (dOp2 gIx a b) .val (enc (xs.getLastD df)) E2 := ev_op2v ha hb (by
  conv => lhs; rw [last_split df h, List.map_append]
  exact gIx_tz) hr
/-- an item of a tuple of a told shape -/
theorem ev_ixC {d d' : D} {i : Int} (ha : Ev E a ka d E1) (hg : gIx d (.int i) = some (.fz d')) (hr : Rdk ka d E1 := by repeat (first | exact True.intro | exact rfl | apply And.intro)) : Ev E (dOp2 gIx a (dC (.int i))) .val d' E1 := ev_op2v ha ev_C hg hr
/-! slices -/
theorem ev_slTt (ha : Ev E a ka (.tuple (xs.map enc)) E1) {hi : M (Option Int)} (h2 : Ep E1 hi (some (p : Nat)) E2) (hr : Rdk ka (.tuple (xs.map enc)) E2 := by repeat (first | exact True.intro | exact rfl | apply And.intro)) : Ev E (dSl a dNoP hi) .val (.tuple ((xs.take p).map enc)) E2 := (ev_slv ha ep_no h2 (gSl_t) hr).eq (by rw [cutD_take, List.map_take])
end
/-! ranges -/
section
variable {E E1 E2 : List Ms} {a b e eb : M Rs} {k ka kb : Kd} {n m : Nat}
theorem ew_rgN (ha : Ev E e k (.int (n : Nat)) E1) (h : n ≤ 1000000000) : Ew E (dRng1 (dCons e dNil)) ((List.range n).map eN) .no E1 := by
  have := ew_rng1 ha (by omega) (by omega)
  rwa [Int.toNat_natCast] at this
theorem ew_rgNN (ha : Ev E e ka (.int (n : Nat)) E1) (hb : Ev E1 eb kb (.int (m : Nat)) E2) (h1 : n ≤ 1000000000) (h2 : m ≤ 1000000000) (hr : Rdk ka (.int (n : Nat)) E2 := by repeat (first | exact True.intro | exact rfl | apply And.intro)) : Ew E (dRng2 (dCons e (dCons eb dNil))) ((List.range' n (m - n)).map eN) .no E2 := by
  have := ew_rng2 ha hb (by omega) (by omega) (by omega) (by omega) hr
  rw [show ((m : Int) - n).toNat = m - n by omega] at this
  rw [List.range'_eq_map_range, List.map_map]
  exact this
/-- a range of integers that may be less than none -/
theorem ew_rgI {x : Int} (ha : Ev E e k (.int x) E1) (h1 : -1000000000 ≤ x) (h2 : x ≤ 1000000000) : Ew E (dRng1 (dCons e dNil)) ((List.range x.toNat).map eN) .no E1 := ew_rng1 ha (by omega) (by omega)
end
end TL
/-! TL7: dicts, stores at items, draws, ends of the law -/
namespace TL
open PySem L2 DL
section
variable {E E1 E2 E3 : List Ms} {m a b c e fi fe : M Rs} {k ka kb kc : Kd} {x y : Int} {p q : Nat} {α β : Type} {enc : α → D} {xs ys : List α} {d : D} {i j : Nat}
/-! append, extend, pop -/
theorem ev_app {x : α} (hi : E[i]? = some (.ow (.list (xs.map enc)))) (ha : Ev E a k (enc x) E1) (hi1 : (frzE k (enc x) E1)[i]? = some (.ow (.list (xs.map enc)))) (hl : xs.length < 16777216) :
    Ev E (dMut i isLst true gAppend (dCons a dNil)) .val .none ((frzE k (enc x) E1).set i (.ow (.list ((xs ++ [x]).map enc)))) :=
  ev_mut (d' := .list ((xs ++ [x]).map enc)) (res := .none) (d1 := .list (xs.map enc)) hi rfl (ea_cons ha ea_nil) ⟨ha.1, trivial⟩ hi1 (by rw [gAppend_l (by rw [List.length_map, sizeLine_eq]; exact hl), List.map_append]; rfl)
theorem ev_ext (hi : E[i]? = some (.ow (.list (xs.map enc)))) (ha : Ev E a k (.list (ys.map enc)) E1) (hi1 : E1[i]? = some (.ow (.list (xs.map enc)))) (hl : xs.length + ys.length ≤ 16777216) :
    Ev E (dMut i isLst false gExtend (dCons a dNil)) .val .none (E1.set i (.ow (.list ((xs ++ ys).map enc)))) :=
  ev_mutL (d' := .list ((xs ++ ys).map enc)) (res := .none) (d1 := .list (xs.map enc)) hi rfl (ea_cons ha ea_nil) ⟨ha.1, trivial⟩ hi1 (by rw [gExtend_l (by rw [List.length_map, List.length_map, sizeLine_eq]; exact hl), List.map_append])
/-! draws -/
theorem ev_sp {f : M Rs} {ins outs : List Ms} {r : Rs} {k : Kd} (h : ∀ ρ, Ec ins ρ → ∃ ρ', f ρ = .ok r ρ' ∧ Ec outs ρ') (hk : Rk r k d) : Ev ins f k d outs := ⟨hk.kr.2 _, fun ρ e => by
  obtain ⟨ρ', e1, c1⟩ := h ρ e
  exact ⟨r, ρ', e1, hk.kr.1, c1⟩⟩
theorem ec_2 {m n : Ms} {ρ : List Sl} (h : Ec [m, n] ρ) : ∃ s t, ρ = [s, t] ∧ Mo m s ∧ Mo n t := by
  match ρ, h with
  | [s, t], h => exact ⟨s, t, rfl, h.1, h.2.1⟩
  | [_], h => exact h.2.elim
  | _ :: _ :: _ :: _, h => exact h.2.2.elim
theorem tv_next (ds : List Int) (i : Nat) (m : Int) (hm : 0 < m) : Ev [.ow (Wd ds i), .fz (.int m)] nextF .val (.int (nx ds i m)) [.ow (Wd ds (i + 1 : Nat)), .fz (.int m)] := ev_sp (r := .fz (.int (nx ds i m))) (fun ρ e => by
  obtain ⟨s, t, rfl, h1, h2⟩ := ec_2 e
  have h1 : s = .ow (Wd ds i) := h1
  have h2 : t = .fz (.int m) := h2
  subst h1; subst h2
  exact ⟨_, next_ok' hm, rfl, rfl, trivial⟩) rfl
/-- what a pick gives -/
def pkT (ds : List Int) (i : Nat) (xs : List α) (df : α) : α := xs.getD (nx ds i xs.length).toNat df
theorem pkT_mem {ds : List Int} {i : Nat} {df : α} (h : xs ≠ []) : pkT ds i xs df ∈ xs := by
  have hl : 0 < xs.length := List.length_pos_iff.mpr h
  have h1 := nx_lt (ds := ds) (i := i) (m := (xs.length : Nat)) (by omega)
  have h2 := nx_nonneg (ds := ds) (i := i) (m := (xs.length : Nat)) (by omega)
  unfold pkT
  rw [getD_lt (by omega)]; exact List.getElem_mem _
theorem tv_pickL (df : α) (ds : List Int) (i : Nat) (xs : List α) (enc : α → D) (h : xs ≠ []) : Ev [.ow (Wd ds i), .rd (.list (xs.map enc))] pickF .val (enc (pkT ds i xs df)) [.ow (Wd ds (i + 1 : Nat)), .rd (.list (xs.map enc))] := by
  have hl : 0 < xs.length := List.length_pos_iff.mpr h
  have h1 := nx_lt (ds := ds) (i := i) (m := (xs.length : Nat)) (by omega)
  have h2 := nx_nonneg (ds := ds) (i := i) (m := (xs.length : Nat)) (by omega)
  refine ev_run (n := 2) (outs := fun _ => [.ow (Wd ds (i + 1 : Nat)), .rd (.list (xs.map enc))]) (ms := [true, true]) (sg_last (sg_ret (v := pkT ds i xs df) (ev_ixLI df (ev_rd (i := 1) rfl) (ev_call (tv_next ds i (xs.length : Nat) (by omega)) (ea_cons (ev_ow (i := 0) rfl) (ea_cons (ev_lenL (ev_rd (i := 1) rfl)) ea_nil)) rdT) h2 (by omega)) leT roT))
end
end TL
/-! TL8: more typed operations, the tactic of side conditions -/
namespace TL
open PySem L2 DL
def dS0 : OkS := okS ""
theorem mapS_len {α β σ : Type} {f : σ → α → β × σ} : ∀ (xs : List α) (s : σ), (mapS f s xs).1.length = xs.length
  | [], s => rfl
  | x :: xs, s => by
    show (_ :: (mapS f (f s x).2 xs).1).length = _
    rw [List.length_cons, List.length_cons, mapS_len xs]
theorem scT {p : Prop} (h : p := by first
  | omega
  | assumption
  | (simp only [List.mem_range, List.mem_range'_1, List.length_map, List.length_append, List.length_cons, List.length_nil, List.length_range, List.length_range', List.length_set, List.length_reverse, List.length_replicate, mapS_len]; omega)
  | (simp only [List.mem_range, List.mem_range'_1, List.length_map, List.length_append, List.length_cons, List.length_nil, List.length_range, List.length_range', List.length_set, List.length_reverse, List.length_replicate, mapS_len] at *; omega)
  | (simp; done)
  | (simp_all; done)
  | (simp_all; omega)
  | fail "SC") : p := h
theorem map_id_e {α : Type} (enc : α → D) (xs : List α) : PyData.list ((xs.map fun x => x).map enc) = PyData.list (xs.map enc) := by rw [List.map_id']
section
variable {E E1 E2 E3 : List Ms} {m a b c e : M Rs} {k ka kb kc : Kd} {x y : Int} {p q : Nat} {α β : Type} {enc : α → D} {xs ys : List α} {d d' : D}
theorem gIAdd_nn : gIAdd (.int (p : Nat)) (.int (q : Nat)) = some (.fz (.int ((p + q : Nat) : Int))) := by rw [gIAdd_ii, Int.natCast_add]
def minN (ns : List Nat) : Nat := (minL (ns.map fun k : Nat => (k : Int))).toNat
theorem minN_cast {ns : List Nat} (h : ns ≠ []) : minL (ns.map fun k : Nat => (k : Int)) = (minN ns : Nat) := by
  unfold minN
  have := (minL_spec (ns := ns.map fun k : Nat => (k : Int)) (by simpa using h)).1
  obtain ⟨k, _, e⟩ := List.mem_map.mp this
  rw [← e]; omega
theorem ev_minLN {ns : List Nat} (ha : Ev E a k (.list (ns.map eN)) E1) (h : ns ≠ []) : Ev E (dB gMin (dCons a dNil)) .val (.int (minN ns : Nat)) E1 := (ev_minL (ha.eq (by rw [map_nat])) (by simpa using h)).eq (by rw [minN_cast h])
/-! sorted -/
end
end TL
/-! TL9: the law's own def: ways that are known, states that are there, draws, comparers -/
namespace TL
open PySem L2 DL
section
variable {E E1 E2 E3 : List Ms} {m a b c e : M Rs} {k ka kb kc : Kd} {d da db dc : D} {i j : Nat} {f : M (List Rs)} {ks : List Kd} {ds : List D} {τ : Type} {P : τ → SR → Prop} {rest s s1 s2 body : DS} {v x y : τ} {li : Lki} {l : Option Nat} {ρ ρ1 ρ2 : List Sl}
theorem sg_gen0 {α : Type} (Ef : α → List Ms) {x : α} (h : ∀ y, y = x → Sg (Ef y) s P v) : Sg (Ef x) s P v := h x rfl
theorem sg_if0 {t : M Bool} {p : Bool} (ht : Tj E t p E1) (h1 : p = true → Sg E1 (dSeq s1 rest) P v) (h2 : p = false → Sg E1 (dSeq s2 rest) P v) : Sg E (dSeq (dIf t s1 s2) rest) P v := fun ρ e => by
  have := sg_if ht h1 h2 ρ e
  rwa [show (if p = true then v else v) = v from ite_self v] at this
/-- a state that is there -/
def Px {σ : Type} (Eσ : σ → List Ms) (I : σ → Prop) : Unit → SR → Prop := fun _ o => ∃ s, I s ∧ match o with
  | .nx ρ => Ec (Eσ s) ρ
  | .ct ρ => Ec (Eσ s) ρ
  | _ => False
theorem sg_passX {σ : Type} {Eσ : σ → List Ms} {I : σ → Prop} (w : σ) (hI : I w) (h : Le E (Eσ w)) : Sg E dPass (Px Eσ I) () := fun ρ e => ⟨w, hI, h.ec e⟩
theorem sg_cntX {σ : Type} {Eσ : σ → List Ms} {I : σ → Prop} (w : σ) (hI : I w) (h : Le E (Eσ w)) : Sg E (dSeq dCnt rest) (Px Eσ I) () := fun ρ e => ⟨w, hI, h.ec e⟩
theorem for_x {α σ : Type} {g : DG} {enc : α → D} {Eσ : σ → List Ms} {I : Nat → σ → Prop} {xs : List α}
    (hb : ∀ k x s, xs[k]? = some x → I k s → ∃ E2, Tg g (enc x) (Eσ s) E2 ∧ Sg E2 body (Px Eσ (I (k + 1))) ()) :
    ∀ (ys : List α) (k : Nat) (s : σ) (ρ : List Sl), xs.drop k = ys → I k s → Ec (Eσ s) ρ → ∃ ρ' s', forGo g body (ys.map enc) ρ = .nx ρ' ∧ Ec (Eσ s') ρ' ∧ I (k + ys.length) s'
  | [], k, s, ρ, _, hI, e => ⟨ρ, s, rfl, e, hI⟩
  | y :: ys, k, s, ρ, hd, hI, e => by
    have hx : xs[k]? = some y := by
      have := congrArg (fun l => l[0]?) hd
      simpa using this
    have hd' : xs.drop (k + 1) = ys := by
      have := congrArg (List.drop 1) hd
      simpa using this
    obtain ⟨E2, h1, h2⟩ := hb k y s hx hI
    obtain ⟨ρ1, e1, c1⟩ := h1 ρ e
    obtain ⟨s', i', q⟩ := h2 ρ1 c1
    have fin : ∀ ρ2, Ec (Eσ s') ρ2 → ∃ ρ' s', forGo g body (ys.map enc) ρ2 = .nx ρ' ∧ Ec (Eσ s') ρ' ∧ I (k + (y :: ys).length) s' := fun ρ2 c2 => by
      obtain ⟨ρ3, s3, e3, c3, i3⟩ := for_x hb ys (k + 1) s' ρ2 hd' i' c2
      exact ⟨ρ3, s3, e3, c3, by rw [List.length_cons, show k + (ys.length + 1) = k + 1 + ys.length by omega]; exact i3⟩
    rw [List.map_cons]
    unfold forGo
    simp only [e1]
    cases eb : body ρ1 with
    | nx ρ2 => rw [eb] at q; exact fin ρ2 q
    | ct ρ2 => rw [eb] at q; exact fin ρ2 q
    | _ => rw [eb] at q; exact q.elim
theorem sg_forX {α σ : Type} {w : M Wk} {g : DG} (enc : α → D) {xs : List α} (Eσ : σ → List Ms) (s0 : σ) (I : Nat → σ → Prop)
    (hw : Ew E w (xs.map enc) li E1) (h0 : Le E1 (Eσ s0)) (i0 : I 0 s0)
    (hb : ∀ k x s, xs[k]? = some x → I k s → ∃ E2, Tg g (enc x) (Eσ s) E2 ∧ Sg E2 body (Px Eσ (I (k + 1))) ())
    (hr : ∀ s, I xs.length s → Sg (unlE li (Eσ s)) rest P v) : Sg E (dSeq (dFor w g body) rest) P v := fun ρ e => by
  obtain ⟨l, ρ1, e1, hl, c1⟩ := hw ρ e
  obtain ⟨ρ2, s2, e2, c2, i2⟩ := for_x hb xs 0 s0 ρ1 rfl i0 (h0.ec c1)
  rw [seq_nx (ρ1 := unl l ρ2) (by unfold dFor; rw [e1]; simp only [e2]; rfl)]
  exact hr s2 (by simpa using i2) _ (unl_k hl c2)
/-! draws -/
theorem ev_draws {script : List Int} (hs : script.length ≤ 63) {many : Nat} (hm : many ≤ 100000) (h : E[i]? = some (.fz (eL eI script))) :
    ∃ ds : List Int, Ev E (dCall [true, true] drawsF (dCons (dVar i) (dCons (dC (.int many)) dNil))) .new (.list (ds.map .int)) E := by
  obtain ⟨ds, hds⟩ := draws_ok script hs many hm
  refine ⟨ds, ?_⟩
  have sp : Ev [.fz (eL eI script), .fz (.int many)] drawsF .new (.list (ds.map .int)) [.fz (eL eI script), .fz (.int many)] := ev_sp (r := .ow (.list (ds.map .int))) (fun ρ e => by
    obtain ⟨s, t, rfl, h1, h2⟩ := ec_2 e
    have h1 : s = .fz (eL eI script) := h1
    have h2 : t = .fz (.int many) := h2
    subst h1; subst h2
    exact ⟨_, hds, e⟩) rfl
  exact ev_call sp (ea_cons (ev_fz h) (ea_cons ev_C ea_nil)) ⟨rfl, rfl, trivial⟩
theorem sg_w {script : List Int} (hs : script.length ≤ 63) {many : Int} (hm : 0 ≤ many ∧ many ≤ 100000) (h : E[i]? = some (.fz (eL eI script))) (hj : j < E.length) (hr : ∀ ds : List Int, Sg (E.set j (.ow (Wd ds (0 : Nat)))) rest P v) :
    Sg E (dSeq (dSet j (dDisp [(dC (.str "draws"), dCall [true, true] drawsF (dCons (dVar i) (dCons (dC (.int many)) dNil))), (dC (.str "at"), dC (.int 0))])) rest) P v := by
  obtain ⟨ds, hd⟩ := ev_draws (E := E) (i := i) hs (many := many.toNat) (by omega) h
  rw [show ((many.toNat : Nat) : Int) = many by omega] at hd
  refine sg_set (d := Wd ds (0 : Nat)) (ev_disp (eps_cons ev_C rfl hd (eps_cons ev_C rfl (ev_C (d := .int 0)) eps_nil)) ⟨trivial, trivial, trivial⟩ rfl) (hr ds) hj
/-! comparers -/
theorem ev_eqd {f : M Rs} {d : D} (h : f [.fz d, .fz d] = .ok (.fz (.bool true)) [.fz d, .fz d]) : Ev [.fz d, .fz d] f .val (.bool true) [.fz d, .fz d] := ev_sp (r := .fz (.bool true)) (fun ρ e => by
  obtain ⟨s, t, rfl, h1, h2⟩ := ec_2 e
  have h1 : s = .fz d := h1
  have h2 : t = .fz d := h2
  subst h1; subst h2
  exact ⟨_, h, e⟩) rfl
theorem tv_same {α : Type} (enc : α → D) (n : Nat) (x y : α) (ho : okV n (enc x)) (h : x = y) : Ev [.fz (enc x), .fz (enc y)] (sameF n) .val (.bool true) [.fz (enc x), .fz (enc y)] := by subst h; exact ev_eqd (same_ok n _ ho)
theorem okv_n {n : Nat} {z : Nat} : okV (n + 1) (eN z) := trivial
theorem okv_s {n : Nat} {z : OkS} : okV (n + 1) (eS z) := trivial
theorem okv_tl {α : Type} {enc : α → D} {n : Nat} {xs : List α} (hl : xs.length ≤ 100000) (h : ∀ x ∈ xs, okV n (enc x)) : okV (n + 1) (eT enc xs) := ⟨by rw [List.length_map]; exact hl, fun d hd => by
  obtain ⟨x, hx, rfl⟩ := List.mem_map.mp hd; exact h x hx⟩
theorem okv_t {n : Nat} {ds : List D} (hl : ds.length ≤ 100000) (h : ∀ d ∈ ds, okV n d) : okV (n + 1) (.tuple ds) := ⟨hl, h⟩
theorem okv_3 {α β γ : Type} {ea : α → D} {eb : β → D} {ec : γ → D} {n : Nat} {p : α × β × γ} (h1 : okV n (ea p.1)) (h2 : okV n (eb p.2.1)) (h3 : okV n (ec p.2.2)) : okV (n + 1) (e3 ea eb ec p) := okv_t (by show 3 ≤ 100000; omega) fun d hd => by
  simp at hd; rcases hd with z | z | z <;> subst z <;> assumption
/-! the end -/
theorem law_of {f : M Rs} (h : ∀ script : List Int, script.length ≤ 63 → ∃ E', Ev [.fz (eL eI script)] f .val (eB true) E') : LawOk f := fun script hs => by
  obtain ⟨E', _, h⟩ := h script hs
  obtain ⟨r, ρ', e, q, _⟩ := h [.fz (.list (script.map .int))] ⟨rfl, trivial⟩
  have q : r = .fz (.bool true) := q
  subst q
  exact ⟨ρ', e⟩
end
end TL
namespace TL
theorem lawpT {p : Prop} (h : p := by first | rfl | (simp; done) | fail "LAWP") : p := h
end TL
namespace TL
theorem lt_of_get {α : Type} {xs : List α} {k : Nat} {x : α} (h : xs[k]? = some x) : k < xs.length := (List.getElem?_eq_some_iff.mp h).1
end TL
/-! TL10: from equations; choices that are handed on; states of draws -/
namespace TL
open PySem L2 DL
section
variable {E E1 : List Ms} {a : M Rs} {k : Kd}
theorem ea_consO {f : M (List Rs)} {ks : List Kd} {ds : List D} {i : Nat} {d d0 : D} (h : E[i]? = some (.ow d0)) (hf : Ea E f ks ds E1) : Ea E (dCons (dVar i) f) (.own i :: ks) (d :: ds) E1 := fun ρ e => by
  obtain ⟨r, ρ1, e1, q1, c1⟩ := (ev_ow h).2 ρ e
  obtain ⟨rs, ρ2, e2, q2, c2⟩ := hf ρ1 c1
  exact ⟨r :: rs, ρ2, by unfold dCons; rw [bd_eq e1, bd_eq e2]; rfl, ⟨q1, q2⟩, c2⟩
end
theorem mapS_all {α β σ : Type} {f : σ → α → β × σ} (p : β → Prop) (h : ∀ s x, p (f s x).1) : ∀ (xs : List α) (s : σ), ∀ y ∈ (mapS f s xs).1, p y
  | [], s, y, hy => by simp [mapS] at hy
  | x :: xs, s, y, hy => by
    rcases List.mem_cons.mp hy with z | z
    · rw [z]; exact h s x
    · exact mapS_all p h xs _ y z
end TL
/-! TL11: order of data by values; more rules -/
namespace TL
open PySem L2 DL
abbrev tks (d : D) : List (Int ⊕ List Nat) := PySem.W.keyToks d
/-- values whose data can be put in order -/
structure So {α : Type} (n : Nat) (enc : α → D) : Prop where
  al : ∀ a b, PySem.W.alike (enc a) (enc b) = true
  nd : ∀ a, noD (enc a) = true
  nn : ∀ a, isNone (enc a) = false
  dp : ∀ a, (enc a).depth ≤ n
  inj : ∀ a b l m, tks (enc a) ++ l = tks (enc b) ++ m → a = b ∧ l = m
section
variable {α β γ δ : Type} {n : Nat} {enc : α → D} {ea : α → D} {eb : β → D} {ec : γ → D} {ed : δ → D}
theorem So.le {m : Nat} (h : So n enc) (hm : n ≤ m) : So m enc := ⟨h.al, h.nd, h.nn, fun a => Nat.le_trans (h.dp a) hm, h.inj⟩
theorem so_str : So n eS := ⟨fun _ _ => by simp [PySem.W.alike], fun _ => by simp [noD], fun _ => rfl, fun _ => by simp [PyData.depth], fun a b l m h => by
  simp only [tks, PySem.W.keyToks, List.cons_append, List.nil_append, List.cons.injEq, Sum.inr.injEq] at h
  exact ⟨Subtype.ext (PySem.W.str_of_cps h.1), h.2⟩⟩
/-! the order -/
def leG (enc : α → D) (a b : α) : Bool := PySem.W.dataLe false id (enc a) (enc b)
def ltG (enc : α → D) (a b : α) : Bool := PySem.W.dataLt (enc a) (enc b)
theorem leG_lt {a b : α} : leG enc a b = !ltG enc b a := by unfold leG ltG; exact dataLe_D _ _
theorem cmpOk_G (h : So n enc) (hn : n ≤ 64) (a b : α) : cmpOk (enc a) (enc b) = true := by
  unfold cmpOk
  simp only [Bool.and_eq_true, Bool.not_eq_true', decide_eq_true_eq]
  exact ⟨⟨⟨⟨h.al a b, h.nn a⟩, h.nd a⟩, h.nd b⟩, Nat.le_trans (h.dp a) hn⟩
theorem gLe_if {x y : D} (h : cmpOk x y = true) (hi : ∀ i j, x = .int i → y = .int j → False) : gLe x y = some (!PySem.W.dataLt y x) := by
  unfold gLe
  split
  · exact (hi _ _ rfl rfl).elim
  · exact if_pos h
theorem gLe_G (h : So n enc) (hi : ∀ a i, enc a ≠ .int i) (hn : n ≤ 64 := by decide) {a b : α} : gLe (enc a) (enc b) = some (leG enc a b) := (gLe_if (cmpOk_G h hn a b) fun i _ e _ => hi _ _ e).trans (congrArg some leG_lt.symm)
end
section
variable {E E1 E2 E3 : List Ms} {m a b c e : M Rs} {k ka kb kc : Kd} {α β : Type} {enc : α → D} {xs ys : List α} {d d' : D} {n : Nat}
/-! a choice where a state goes on -/
theorem ev_ifS {σ : Type} {t : M Bool} {p : Bool} {x y : α} (Eσ : σ → List Ms) {s1 s2 : σ} (ht : Tj E t p E1) (ha : p = true → Ev E1 a k (enc x) (Eσ s1)) (hb : p = false → Ev E1 b k (enc y) (Eσ s2)) (hk : ∀ d E, Rdk k d E := by intro _ _; exact True.intro) : Ev E (dIfE t a b) k (enc (if p = true then x else y)) (Eσ (if p = true then s1 else s2)) := ⟨hk _ _, fun ρ e => by
  obtain ⟨ρ1, e1, c1⟩ := ht ρ e
  unfold dIfE
  rw [bd_eq e1]
  cases p with
  | true => obtain ⟨r, ρ2, e2, q2, c2⟩ := (ha rfl).2 ρ1 c1; exact ⟨r, ρ2, by simpa using e2, by simpa using q2, by simpa using c2⟩
  | false => obtain ⟨r, ρ2, e2, q2, c2⟩ := (hb rfl).2 ρ1 c1; exact ⟨r, ρ2, by simpa using e2, by simpa using q2, by simpa using c2⟩⟩
/-! comprehensions with a test and a state -/
/-! while, with ways out -/
def whO {γ σ : Type} (c : σ → Bool) (f : σ → Ou γ σ) : Nat → σ → Ou γ σ
  | 0, s => .nx s
  | n + 1, s => if c s = true then match f s with
    | .rt v => .rt v
    | .bk s => .bk s
    | .nx s => whO c f n s
    else .nx s
theorem while_out {γ σ : Type} {body : DS} {R : γ → Rs → List Sl → Prop} {t : M Bool} {Eσ : σ → List Ms} {cc : σ → Bool} {step : σ → Ou γ σ} {I : σ → Prop} (μ : σ → Nat)
    (hc : ∀ s, I s → Tj (Eσ s) t (cc s) (Eσ s)) (hb : ∀ s, I s → cc s = true → Sg (Eσ s) body (Po R Eσ) (step s)) (hi : ∀ s s', I s → cc s = true → (step s = .nx s' ∨ step s = .bk s') → I s' ∧ (step s = .nx s' → μ s' < μ s)) :
    ∀ (n N : Nat) (s : σ) (ρ : List Sl), μ s < N → N ≤ n → I s → Ec (Eσ s) ρ → match whO cc step N s with
      | .rt v => ∃ r ρ', whileGo t body n ρ = .rt r ρ' ∧ R v r ρ'
      | .nx s' => ∃ ρ', whileGo t body n ρ = .nx ρ' ∧ Ec (Eσ s') ρ' ∧ I s' ∧ cc s' = false
      | .bk s' => ∃ ρ', whileGo t body n ρ = .nx ρ' ∧ Ec (Eσ s') ρ' ∧ I s'
  | 0, N, s, ρ, h1, h2, _, _ => by omega
  | n + 1, N, s, ρ, h1, h2, hI, e => by
    obtain ⟨ρ1, e1, c1⟩ := hc s hI ρ e
    unfold whileGo
    rw [e1]
    cases ec : cc s with
    | false =>
      have : whO cc step N s = .nx s := by cases N <;> unfold whO <;> simp [ec]
      rw [this]; exact ⟨ρ1, rfl, c1, hI, ec⟩
    | true =>
      have q := hb s hI ec ρ1 c1
      have hi' := fun s' => hi s s' hI ec
      match N, h1, h2 with
      | 0, h1, _ => omega
      | N + 1, h1, h2 =>
        have ew : whO cc step (N + 1) s = match step s with
            | .rt v => .rt v
            | .bk s => .bk s
            | .nx s => whO cc step N s := by conv => lhs; unfold whO
                                             simp [ec]
        rw [ew]
        simp only
        cases es : step s with
        | rt v =>
          rw [es] at q
          cases eb : body ρ1 with
          | rt r ρ2 => rw [eb] at q; exact ⟨r, ρ2, rfl, q⟩
          | _ => rw [eb] at q; exact q.elim
        | bk s' =>
          rw [es] at q
          cases eb : body ρ1 with
          | bk ρ2 => rw [eb] at q; exact ⟨ρ2, rfl, q, (hi' s' (.inr es)).1⟩
          | _ => rw [eb] at q; exact q.elim
        | nx s' =>
          rw [es] at q
          obtain ⟨h3, h4⟩ := hi' s' (.inl es)
          have h4 := h4 es
          cases eb : body ρ1 with
          | nx ρ2 => rw [eb] at q; exact while_out μ hc hb hi n N s' ρ2 (by omega) (by omega) h3 q
          | ct ρ2 => rw [eb] at q; exact while_out μ hc hb hi n N s' ρ2 (by omega) (by omega) h3 q
          | _ => rw [eb] at q; exact q.elim
theorem sg_whileO {γ σ τ : Type} {P : τ → SR → Prop} {rest body : DS} {R : γ → Rs → List Sl → Prop} {t : M Bool} {n : Nat} (Eσ : σ → List Ms) (N : Nat) {s0 : σ} {cc : σ → Bool} {step : σ → Ou γ σ} (I : σ → Prop) (μ : σ → Nat) {inj : γ → τ} {o : σ → τ} (hP : ∀ v r ρ l, R v r ρ → P (inj v) (.rt r (unl l ρ)))
    (h0 : Le E (Eσ s0)) (i0 : I s0) (hμ : μ s0 < N) (hN : N ≤ n)
    (hc : ∀ s, I s → Tj (Eσ s) t (cc s) (Eσ s)) (hb : ∀ s, I s → cc s = true → Sg (Eσ s) body (Po R Eσ) (step s)) (hi : ∀ s s', I s → cc s = true → (step s = .nx s' ∨ step s = .bk s') → I s' ∧ (step s = .nx s' → μ s' < μ s))
    (hr : ∀ s, I s → Sg (Eσ s) rest P (o s)) : Sg E (dSeq (dWhile n t body) rest) P (seqO (whO cc step N s0) inj o) := fun ρ e => by
  have h := while_out μ hc hb hi n N s0 ρ hμ hN i0 (h0.ec e)
  unfold seqO
  cases ef : whO cc step N s0 with
  | rt v =>
    rw [ef] at h
    obtain ⟨r, ρ2, e2, q⟩ := h
    have : dSeq (dWhile n t body) rest ρ = .rt r ρ2 := by unfold dSeq dWhile; rw [e2]
    rw [this]; exact hP v r ρ2 none q
  | nx s =>
    rw [ef] at h
    obtain ⟨ρ2, e2, c2, q, _⟩ := h
    rw [seq_nx (s := dWhile n t body) (ρ1 := ρ2) e2]
    exact hr s q _ c2
  | bk s =>
    rw [ef] at h
    obtain ⟨ρ2, e2, c2, q⟩ := h
    rw [seq_nx (s := dWhile n t body) (ρ1 := ρ2) e2]
    exact hr s q _ c2
end
end TL
/-! TL12: dicts of pairs, comparers by size, places from behind -/
namespace TL
open PySem L2 DL
end TL
/-! TL13: plain facts for the laws that follow -/
namespace TL
open PySem L2 DL
section
variable {α β σ γ : Type}
theorem nodup_sub_len [DecidableEq α] : ∀ {xs ys : List α}, xs.Nodup → (∀ x ∈ xs, x ∈ ys) → xs.length ≤ ys.length
  | [], _, _, _ => Nat.zero_le _
  | x :: xs, ys, h, s => by
    have hx : x ∈ ys := s x (by simp)
    have h2 := List.nodup_cons.mp h
    have := nodup_sub_len (xs := xs) (ys := ys.erase x) h2.2 fun y hy => (List.mem_erase_of_ne (fun e => h2.1 (by rw [← e]; exact hy))).mpr (s y (by simp [hy]))
    rw [List.length_erase_of_mem hx] at this
    have := List.length_pos_of_mem hx
    rw [List.length_cons]; omega
theorem foldl_ind {P : σ → Prop} {f : σ → α → σ} : ∀ {xs : List α} {s : σ}, P s → (∀ s x, x ∈ xs → P s → P (f s x)) → P (xs.foldl f s)
  | [], _, h, _ => h
  | x :: xs, s, h, hs => foldl_ind (xs := xs) (s := f s x) (P := P) (hs s x (by simp) h) fun s y hy => hs s y (by simp [hy])
theorem getD_lt' {xs : List α} {a : Nat} (d : α) (h : a < xs.length) : xs.getD a d = xs[a] := by rw [List.getD_eq_getElem?_getD, List.getElem?_eq_getElem h]; rfl
theorem getD_mem' {xs : List α} {a : Nat} (d : α) (h : a < xs.length) : xs.getD a d ∈ xs := by rw [getD_lt' d h]; exact List.getElem_mem h
/-! dicts by text -/
/-! the order of texts -/
end
end TL
/-! TL14: list(dict) -/
namespace TL
open PySem L2 DL
end TL
/-! TL15: sorted(d.items()), insert, ranges down, draws in the test of a comprehension -/
namespace TL
open PySem L2 DL
section
variable {E E1 E2 E3 : List Ms} {m a b c e : M Rs} {k ka kb kc : Kd} {α β σ : Type} {enc : α → D} {xs ys : List α} {d d' : D} {i : Nat}
theorem tj_as {t : M Bool} {p : Bool} (E2 : List Ms) (ha : Tj E t p E1) (h : E1 = E2 := by rfl) : Tj E t p E2 := h ▸ ha
end
end TL
/-! TL16: dict.get, list(d.items()) -/
namespace TL
open PySem L2 DL
end TL
/-! TL17: results of two shapes, == with any data -/
namespace TL
open PySem L2 DL
section
variable {α β γ δ : Type} {ea : α → D} {eb : β → D} {ec : γ → D} {ed : δ → D} {enc : α → D} {xs : List α} {w0 w1 : Str}
theorem gEqX_nil_ : gEqX (.list (xs.map enc)) (.list (([] : List α).map enc)) = some xs.isEmpty := by
  rw [List.map_nil, gEqX_lnil]; cases xs <;> rfl
end
theorem scQ {p : Prop} (h : p := by first
  | omega
  | assumption
  | (simp only [List.mem_range, List.mem_range'_1, List.length_map, List.length_append, List.length_cons, List.length_nil, List.length_range, List.length_range', List.length_set, List.length_reverse, List.length_replicate, mapS_len]; omega)
  | fail "SC") : p := h
end TL
namespace TL
open PySem L2 DL
end TL
/-! TL18: texts -/
namespace TL
open PySem L2 DL
abbrev chs (s : OkS) : List Nat := s.1.cps.toList
def okL (l : List Nat) : Bool := l.all fun c => decide (c < 0x110000)
theorem okL_ok {l : List Nat} (h : okL l = true) : PyData.strOk (⟨l.toArray⟩ : Str) = true := by
  unfold PyData.strOk
  rw [List.all_toArray]; exact h
theorem chs_ok (s : OkS) : okL (chs s) = true := by
  have h := s.2
  unfold PyData.strOk at h
  rw [← Array.all_toList] at h; exact h
def mkS (l : List Nat) : OkS := if h : okL l = true then ⟨⟨l.toArray⟩, okL_ok h⟩ else dS0
theorem mkS_val {l : List Nat} (h : okL l = true) : (mkS l).1 = (⟨l.toArray⟩ : Str) := by unfold mkS; rw [dif_pos h]
theorem mkS_chs {l : List Nat} (h : okL l = true) : chs (mkS l) = l := by unfold chs; rw [mkS_val h]
theorem chs_inj {s t : OkS} (h : chs s = chs t) : s = t := Subtype.ext (Str.ext' (Array.toList_inj.mp h))
theorem okL_iff {l : List Nat} : okL l = true ↔ ∀ c ∈ l, c < 0x110000 := by unfold okL; rw [List.all_eq_true]; simp
theorem okL_sub {l m : List Nat} (h : okL l = true) (hs : ∀ c ∈ m, c ∈ l) : okL m = true := okL_iff.mpr fun c hc => okL_iff.mp h c (hs c hc)
def slen (s : OkS) : Nat := (chs s).length
def sAt (s : OkS) (i : Nat) : OkS := mkS [(chs s).getD i 0]
def sTake (s : OkS) (n : Nat) : OkS := mkS ((chs s).take n)
def sDrop (s : OkS) (n : Nat) : OkS := mkS ((chs s).drop n)
def sChars (s : OkS) : List OkS := (chs s).map fun c => mkS [c]
def sIn (x y : OkS) : Bool := if x.1.cps.size = 1 then decide (x.1.cps.getD 0 0 ∈ y.1.cps.toList) else !(Builtin.Str.occurrences y.1 x.1 0 y.1.length 1).isEmpty
theorem str_len (s : OkS) : s.1.length = slen s := by unfold slen chs; simp [Str.length]
theorem ok1 {s : OkS} {c : Nat} (h : c ∈ chs s) : okL [c] = true := okL_sub (chs_ok s) (by simpa using h)
section
variable {E E1 E2 E3 : List Ms} {m a b c e fi fe : M Rs} {k ka kb kc : Kd} {x y : Int} {p q : Nat} {s t : OkS}
theorem ev_lenS (ha : Ev E a k (.str s.1) E1) (h : slen s ≤ 16777216) : Ev E (dB gLen (dCons a dNil)) .val (.int (slen s : Nat)) E1 := ev_B1v ha (by
  show (if s.1.length ≤ sizeLine then some (Rs.fz (.int s.1.length)) else none) = _
  rw [str_len, if_pos (by rw [sizeLine_eq]; exact h)])
theorem ev_ixSN (ha : Ev E a ka (.str s.1) E1) (hb : Ev E1 b kb (.int (p : Nat)) E2) (h : p < slen s) (hl : slen s ≤ 16777216) (hr : Rdk ka (.str s.1) E2 := by repeat (first | exact True.intro | exact rfl | apply And.intro)) : Ev E (dOp2 gIx a b) .val (eS (sAt s p)) E2 := ev_op2v ha hb (by
  show (if s.1.length ≤ sizeLine then (atI s.1.cps.toList ((p : Nat) : Int)).map fun c => Rs.fz (.str ⟨#[c]⟩) else none) = _
  rw [str_len, if_pos (by rw [sizeLine_eq]; exact hl)]
  have h1 : atI (chs s) ((p : Nat) : Int) = some ((chs s).getD p 0) := by
    refine atI_nat ?_
    rw [getD_lt h, List.getElem?_eq_getElem h]
  rw [h1]
  show some (Rs.fz (.str ⟨#[(chs s).getD p 0]⟩)) = _
  unfold sAt eS
  rw [mkS_val (ok1 (by rw [getD_lt h]; exact List.getElem_mem _))]) hr
theorem sl_txt {lo hi : Option Int} {l : List Nat} (hl : slen s ≤ 16777216) (h : ((chs s).drop (HT.sIx (slen s) 0 lo)).take (HT.sIx (slen s) (slen s) hi - HT.sIx (slen s) 0 lo) = l) : gSl (.str s.1) lo hi = some (.fz (eS (mkS l))) := by
  show (if s.1.length ≤ sizeLine then some (Rs.fz (.str (cutS s.1 lo hi))) else none) = _
  rw [str_len, if_pos (by rw [sizeLine_eq]; exact hl)]
  unfold eS
  rw [mkS_val (l := l) (okL_sub (chs_ok s) fun c hc => by rw [← h] at hc; exact List.mem_of_mem_drop (List.mem_of_mem_take hc))]
  unfold cutS
  rw [str_len, ← h]
theorem ev_slSt (ha : Ev E a ka (.str s.1) E1) {hi : M (Option Int)} (h2 : Ep E1 hi (some (p : Nat)) E2) (hl : slen s ≤ 16777216) (hr : Rdk ka (.str s.1) E2 := by repeat (first | exact True.intro | exact rfl | apply And.intro)) : Ev E (dSl a dNoP hi) .val (eS (sTake s p)) E2 := ev_slv ha ep_no h2 (sl_txt hl (by
  rw [HT.sIx_none, HT.sIx_nat, List.drop_zero, Nat.sub_zero]
  rcases Nat.le_total p (slen s) with z | z
  · rw [Nat.min_eq_left z]
  · rw [Nat.min_eq_right z, List.take_of_length_le (show (chs s).length ≤ slen s from Nat.le_refl _), List.take_of_length_le z])) hr
theorem ev_slSd (ha : Ev E a ka (.str s.1) E1) {lo : M (Option Int)} (h2 : Ep E1 lo (some (p : Nat)) E2) (hl : slen s ≤ 16777216) (hr : Rdk ka (.str s.1) E2 := by repeat (first | exact True.intro | exact rfl | apply And.intro)) : Ev E (dSl a lo dNoP) .val (eS (sDrop s p)) E2 := ev_slv ha h2 ep_no (sl_txt hl (by
  rw [HT.sIx_none, HT.sIx_nat]
  rcases Nat.le_total p (slen s) with z | z
  · rw [Nat.min_eq_left z, List.take_of_length_le (by rw [List.length_drop]; exact Nat.le_refl _)]
  · rw [Nat.min_eq_right z, List.drop_of_length_le (show (chs s).length ≤ slen s from Nat.le_refl _), List.drop_of_length_le z, List.take_nil])) hr
theorem gIn_txt : gIn (.str s.1) (.str t.1) = some (sIn s t) := rfl
theorem gNotIn_txt : gNotIn (.str s.1) (.str t.1) = some (!sIn s t) := rfl
theorem sq_txt : seqItems (.str s.1) = some ((sChars s).map eS) := by
  show some (s.1.cps.toList.map fun c => PyData.str ⟨#[c]⟩) = _
  unfold sChars
  rw [List.map_map]
  refine congrArg some (List.map_congr_left fun c hc => ?_)
  show _ = PyData.str (mkS [c]).1
  rw [mkS_val (ok1 hc)]
theorem slen_pos (h : s ≠ dS0) : 0 < slen s := by
  unfold slen
  refine List.length_pos_iff.mpr fun e => h (chs_inj ?_)
  rw [e]; rfl
theorem sChars_len : (sChars s).length = slen s := by unfold sChars slen; rw [List.length_map]
end
end TL
/-! TL19: bodies: trees of nodes -/
namespace TL
open PySem L2 DL
inductive Nd where
  | mk (lab : OkS) (words : List OkS) (kids : List Nd)
mutual
def decN : (a b : Nd) → Decidable (a = b)
  | .mk l w k, .mk l' w' k' =>
    if h1 : l = l' then
      if h2 : w = w' then
        match decNs k k' with
        | .isTrue h3 => .isTrue (by rw [h1, h2, h3])
        | .isFalse h3 => .isFalse fun h => h3 (by injection h)
      else .isFalse fun h => h2 (by injection h)
    else .isFalse fun h => h1 (by injection h)
def decNs : (a b : List Nd) → Decidable (a = b)
  | [], [] => .isTrue rfl
  | [], _ :: _ => .isFalse fun h => by cases h
  | _ :: _, [] => .isFalse fun h => by cases h
  | x :: xs, y :: ys => match decN x y, decNs xs ys with
    | .isTrue h1, .isTrue h2 => .isTrue (by rw [h1, h2])
    | .isFalse h1, _ => .isFalse fun h => h1 (by injection h)
    | _, .isFalse h2 => .isFalse fun h => h2 (by injection h)
end
instance decNd : DecidableEq Nd := decN
def Nd.lab : Nd → OkS
  | .mk l _ _ => l
def Nd.words : Nd → List OkS
  | .mk _ w _ => w
def Nd.kids : Nd → List Nd
  | .mk _ _ k => k
def nd0 : Nd := .mk dS0 [] []
mutual
def eNd : Nd → D
  | .mk l w k => .tuple [eS l, eT eS w, .tuple (eNds k)]
def eNds : List Nd → List D
  | [] => []
  | x :: xs => eNd x :: eNds xs
end
theorem eNds_map : ∀ xs : List Nd, eNds xs = xs.map eNd
  | [] => by unfold eNds; rfl
  | x :: xs => by unfold eNds; rw [eNds_map xs]; rfl
theorem eNd_mk (l : OkS) (w : List OkS) (k : List Nd) : eNd (.mk l w k) = .tuple [eS l, eT eS w, eT eNd k] := by unfold eNd; rw [eNds_map]
theorem eNd_un (x : Nd) : eNd x = .tuple [eS x.lab, eT eS x.words, eT eNd x.kids] := by cases x; exact eNd_mk _ _ _
theorem isNone_nd (x : Nd) : isNone (eNd x) = false := by rw [eNd_un]; rfl
theorem gIx_nd0 {x : Nd} : gIx (eNd x) (.int 0) = some (.fz (eS x.lab)) := by rw [eNd_un]; rfl
theorem gIx_nd1 {x : Nd} : gIx (eNd x) (.int 1) = some (.fz (eT eS x.words)) := by rw [eNd_un]; rfl
theorem gIx_nd2 {x : Nd} : gIx (eNd x) (.int 2) = some (.fz (eT eNd x.kids)) := by rw [eNd_un]; rfl
theorem Tg.eq {g : DG} {d d' : D} {E E' : List Ms} (e : d = d') (h : Tg g d E E') : Tg g d' E E' := e ▸ h
/-! levels -/
mutual
def lvN : Nd → Nat
  | .mk _ _ k => lvB k + 1
def lvB : List Nd → Nat
  | [] => 0
  | x :: xs => max (lvN x) (lvB xs)
end
mutual
def szN : Nd → Nat
  | .mk _ _ k => szB k + 1
def szB : List Nd → Nat
  | [] => 0
  | x :: xs => szN x + szB xs
end
theorem lvN_eq (x : Nd) : lvN x = lvB x.kids + 1 := by cases x; unfold lvN; rfl
theorem szN_eq (x : Nd) : szN x = szB x.kids + 1 := by cases x; unfold szN; rfl
theorem lvB_le {n : Nat} : ∀ {b : List Nd}, lvB b ≤ n ↔ ∀ x ∈ b, lvN x ≤ n
  | [] => by unfold lvB; simp
  | x :: xs => by
    unfold lvB
    rw [Nat.max_le, lvB_le (b := xs)]
    simp
theorem szB_cons (x : Nd) (b : List Nd) : szB (x :: b) = szN x + szB b := by conv => lhs; unfold szB
theorem szB_nil : szB [] = 0 := by unfold szB; rfl
theorem szN_pos (x : Nd) : 0 < szN x := by rw [szN_eq]; omega
theorem szB_len : ∀ b : List Nd, b.length ≤ szB b
  | [] => by simp
  | x :: b => by rw [szB_cons, List.length_cons]; have := szB_len b; have := szN_pos x; omega
theorem szB_mem {x : Nd} : ∀ {b : List Nd}, x ∈ b → szN x ≤ szB b
  | [], h => by simp at h
  | y :: b, h => by
    rw [szB_cons]
    rcases List.mem_cons.mp h with z | z
    · subst z; omega
    · have := szB_mem z; omega
/-- well formed: labels of one row apart, a property of each node -/
def WfB (P : OkS → List OkS → Prop) : Nat → List Nd → Prop
  | 0, b => b = []
  | n + 1, b => (b.map Nd.lab).Nodup ∧ ∀ x ∈ b, P x.lab x.words ∧ WfB P n x.kids
theorem wfB_nil {P : OkS → List OkS → Prop} : ∀ n, WfB P n []
  | 0 => rfl
  | n + 1 => ⟨by simp, fun _ h => by simp at h⟩
theorem wfB_mono {P : OkS → List OkS → Prop} : ∀ {n : Nat} {b : List Nd}, WfB P n b → WfB P (n + 1) b
  | 0, b, h => by have h : b = [] := h; subst h; exact wfB_nil _
  | n + 1, b, h => ⟨h.1, fun x hx => ⟨(h.2 x hx).1, wfB_mono (h.2 x hx).2⟩⟩
theorem wfB_imp {P Q : OkS → List OkS → Prop} (hp : ∀ l w, P l w → Q l w) : ∀ {n : Nat} {b : List Nd}, WfB P n b → WfB Q n b
  | 0, b, h => h
  | n + 1, b, h => ⟨h.1, fun x hx => ⟨hp _ _ (h.2 x hx).1, wfB_imp hp (h.2 x hx).2⟩⟩
theorem wfB_lv {P : OkS → List OkS → Prop} : ∀ {n : Nat} {b : List Nd}, WfB P n b → lvB b ≤ n
  | 0, b, h => by have h : b = [] := h; subst h; unfold lvB; omega
  | n + 1, b, h => lvB_le.mpr fun x hx => by rw [lvN_eq]; have := wfB_lv (h.2 x hx).2; omega
/-! data of bodies -/
/-! nodes and paths -/
end TL
/-! TL20: plain facts of bodies -/
namespace TL
open PySem L2 DL
mutual
def prN : Nd → List (List OkS)
  | .mk l _ k => [l] :: (prB k).map fun p => l :: p
/-- all paths, in order -/
def prB : List Nd → List (List OkS)
  | [] => []
  | x :: xs => prN x ++ prB xs
end
theorem prN_eq (x : Nd) : prN x = [x.lab] :: (prB x.kids).map fun p => x.lab :: p := by
  cases x
  conv => lhs; unfold prN
  rfl
theorem prB_nil : prB [] = [] := by unfold prB; rfl
theorem prB_cons (x : Nd) (b : List Nd) : prB (x :: b) = prN x ++ prB b := by conv => lhs; unfold prB
theorem prB_flat : ∀ b : List Nd, prB b = b.flatMap prN
  | [] => prB_nil
  | x :: b => by rw [prB_cons, prB_flat b, List.flatMap_cons]
theorem prB_mem {b : List Nd} {p : List OkS} : p ∈ prB b ↔ ∃ x ∈ b, p = [x.lab] ∨ ∃ q ∈ prB x.kids, p = x.lab :: q := by
  rw [prB_flat, List.mem_flatMap]
  constructor
  · rintro ⟨x, hx, h⟩
    rw [prN_eq] at h
    rcases List.mem_cons.mp h with z | z
    · exact ⟨x, hx, .inl z⟩
    · obtain ⟨q, hq, e⟩ := List.mem_map.mp z
      exact ⟨x, hx, .inr ⟨q, hq, e.symm⟩⟩
  · rintro ⟨x, hx, h⟩
    refine ⟨x, hx, ?_⟩
    rw [prN_eq]
    rcases h with z | ⟨q, hq, z⟩
    · rw [z]; simp
    · rw [z]; exact List.mem_cons_of_mem _ (List.mem_map.mpr ⟨q, hq, rfl⟩)
theorem prB_ne {b : List Nd} {p : List OkS} (h : p ∈ prB b) : p ≠ [] := by
  obtain ⟨x, _, z | ⟨q, _, z⟩⟩ := prB_mem.mp h <;> rw [z] <;> simp
mutual
theorem prN_len : ∀ x : Nd, (prN x).length = szN x
  | .mk l w k => by
    rw [prN_eq, szN_eq, List.length_cons, List.length_map]
    exact congrArg (· + 1) (prB_len k)
theorem prB_len : ∀ b : List Nd, (prB b).length = szB b
  | [] => by rw [prB_nil, szB_nil]; rfl
  | x :: b => by rw [prB_cons, szB_cons, List.length_append, prN_len x, prB_len b]
end
theorem prB_lv : ∀ (n : Nat) {b : List Nd} {p : List OkS}, lvB b ≤ n → p ∈ prB b → p.length ≤ n
  | 0, b, p, h, hp => by
    obtain ⟨x, hx, _⟩ := prB_mem.mp hp
    have := lvB_le.mp h x hx
    rw [lvN_eq] at this; omega
  | n + 1, b, p, h, hp => by
    obtain ⟨x, hx, z⟩ := prB_mem.mp hp
    have := lvB_le.mp h x hx
    rw [lvN_eq] at this
    rcases z with z | ⟨q, hq, z⟩
    · rw [z]; simp
    · rw [z, List.length_cons]; have := prB_lv n (by omega) hq; omega
/-! the node at a path -/
def nodeG : Option Nd → List Nd → List OkS → Option Nd
  | o, _, [] => o
  | _, b, l :: p => match b.find? fun x => decide (x.lab = l) with
    | none => none
    | some x => nodeG (some x) x.kids p
abbrev nodeP (b : List Nd) (p : List OkS) : Option Nd := nodeG none b p
theorem find_lab {b : List Nd} (hn : (b.map Nd.lab).Nodup) {x : Nd} (hx : x ∈ b) : (b.find? fun y => decide (y.lab = x.lab)) = some x := by
  induction b with
  | nil => simp at hx
  | cons y b ih =>
    rw [List.map_cons, List.nodup_cons] at hn
    rw [List.find?_cons]
    rcases List.mem_cons.mp hx with z | z
    · subst z; simp
    · have : y.lab ≠ x.lab := fun e => hn.1 (by rw [e]; exact List.mem_map.mpr ⟨x, z, rfl⟩)
      rw [decide_eq_false this]
      exact ih hn.2 z
theorem find_lab_some {b : List Nd} {l : OkS} {x : Nd} (h : (b.find? fun y => decide (y.lab = l)) = some x) : x ∈ b ∧ x.lab = l := ⟨List.mem_of_find?_eq_some h, by simpa using List.find?_some h⟩
theorem filter_find (b : List Nd) (l : OkS) : (b.filter fun y => decide (y.lab = l)).head? = b.find? fun y => decide (y.lab = l) := by rw [List.head?_filter]
theorem nodeP_mem {P : OkS → List OkS → Prop} : ∀ {n : Nat} {p : List OkS} {b : List Nd} {o : Option Nd}, WfB P n b → p ∈ prB b → ∃ x, nodeG o b p = some x ∧ P x.lab x.words ∧ WfB P n x.kids
  | 0, p, b, o, h, hp => by
    have h : b = [] := h
    subst h
    rw [prB_nil] at hp; simp at hp
  | n + 1, [], b, o, h, hp => absurd rfl (prB_ne hp)
  | n + 1, l :: p, b, o, h, hp => by
    obtain ⟨x, hx, z⟩ := prB_mem.mp hp
    have hl : l = x.lab := by rcases z with z | ⟨q, _, z⟩ <;> (cases z; rfl)
    unfold nodeG
    rw [hl, find_lab h.1 hx]
    rcases z with z | ⟨q, hq, z⟩
    · cases z; exact ⟨x, rfl, (h.2 x hx).1, wfB_mono (h.2 x hx).2⟩
    · cases z
      obtain ⟨y, e1, e2, e3⟩ := nodeP_mem (o := some x) (h.2 x hx).2 hq
      exact ⟨y, e1, e2, wfB_mono e3⟩
theorem nodeP_some : ∀ {p : List OkS} {b : List Nd} {o : Option Nd} {x : Nd}, p ≠ [] → nodeG o b p = some x → p ∈ prB b
  | [], _, _, _, h, _ => absurd rfl h
  | l :: p, b, o, x, _, h => by
    unfold nodeG at h
    cases hf : b.find? fun y => decide (y.lab = l) with
    | none => rw [hf] at h; cases h
    | some y =>
      rw [hf] at h
      obtain ⟨hy, e⟩ := find_lab_some hf
      cases p with
      | nil => exact prB_mem.mpr ⟨y, hy, .inl (by rw [e])⟩
      | cons m p => exact prB_mem.mpr ⟨y, hy, .inr ⟨_, nodeP_some (by simp) h, by rw [e]⟩⟩
theorem getD_head {α : Type} (l : List α) (d : α) : l.getD 0 d = l.head?.getD d := by cases l <;> rfl
/-- the loop of node_at -/
theorem node_loop {step : Option Nd × List Nd → OkS → Ou (Option Nd) (Option Nd × List Nd)} (hs : ∀ s l, step s l = match s.2.find? fun x => decide (x.lab = l) with | none => .rt none | some x => .nx (some x, x.kids)) : ∀ (p : List OkS) (o : Option Nd) (b : List Nd), seqO (foldO step p (o, b)) id (fun s => s.1) = nodeG o b p
  | [], o, b => rfl
  | l :: p, o, b => by
    unfold foldO nodeG
    rw [hs]
    dsimp only
    cases b.find? fun x => decide (x.lab = l) with
    | none => rfl
    | some x => exact node_loop hs p (some x) x.kids
theorem flt_cases (b : List Nd) (l : OkS) {γ : Type} (u : γ) (v : Nd → γ) : (if (b.filter fun x => decide (x.lab = l)).isEmpty = true then u else v ((b.filter fun x => decide (x.lab = l)).getD 0 nd0)) = match b.find? fun x => decide (x.lab = l) with | none => u | some x => v x := by
  rw [← filter_find]
  cases b.filter fun x => decide (x.lab = l) <;> rfl
/-! all paths by a pile -/
/-! a node put at a path -/
section
variable (kf : OkS → Int × OkS)
def ownB (b : List Nd) (l : OkS) : Nd := (b.filter fun x => decide (x.lab = l)).getD 0 nd0
/-! what is kept -/
variable {kf}
theorem ownB_find {b : List Nd} {l : OkS} {x : Nd} (hn : (b.map Nd.lab).Nodup) (hx : x ∈ b) (e : x.lab = l) : ownB b l = x := by
  unfold ownB
  rw [getD_head, filter_find, ← e, find_lab hn hx]; rfl
end
end TL
/-! TL21: invariants of the loops over bodies -/
namespace TL
open PySem L2 DL
section
variable {P : OkS → List OkS → Prop}
theorem mem_len {x : Nd} {b : List Nd} (h : x ∈ b) (hs : szB b ≤ 1000) : szB x.kids ≤ 1000 := by
  have := szB_mem h
  rw [szN_eq] at this; omega
theorem len_sz {b : List Nd} (hs : szB b ≤ 1000) : b.length ≤ 1000 := Nat.le_trans (szB_len b) hs
theorem lv_kid {x : Nd} {b : List Nd} {n : Nat} (h : x ∈ b) (hl : lvB b < n + 1) : lvB x.kids < n := by
  have := lvB_le.mp (Nat.le_of_lt_succ hl) x h
  rw [lvN_eq] at this; omega
theorem head_mem {b : List Nd} {l : OkS} (h : (b.filter fun x => decide (x.lab = l)).isEmpty = false) : (b.filter fun x => decide (x.lab = l)).getD 0 nd0 ∈ b := by
  have : (b.filter fun x => decide (x.lab = l)) ≠ [] := fun e => by rw [e] at h; cases h
  exact (List.mem_filter.mp (getD_mem' nd0 (List.length_pos_iff.mpr this))).1
end
end TL
/-! TL22: sorted(dict(..)) and sorted(set(..)) are one -/
namespace TL
open PySem L2 DL
end TL
/-! TL23: parts of results of two shapes, is of truths, != of the same data -/
namespace TL
open PySem L2 DL
end TL
/-! TL24: min and max of a list of tuples -/
namespace TL
open PySem L2 DL
end TL
/-! TL25: plain facts that more than one law used -/
namespace TL
open PySem L2 DL
end TL
/-! TL26: a, b = a list; str(int) -/
namespace TL
open PySem L2 DL
end TL
/-! TL27: tests of which one part draws -/
namespace TL
open PySem L2 DL
section
variable {E E1 E2 E3 : List Ms} {t u : M Bool} {p q : Bool} {σ : Type}
theorem tj_andS (Eσ : σ → List Ms) {s1 s2 : σ} (h : Tj E t p (Eσ s1)) (h2 : p = true → Tj (Eσ s1) u q (Eσ s2)) : Tj E (dAnd t u) (p && q) (Eσ (if p = true then s2 else s1)) := fun ρ e => by
  obtain ⟨ρ1, e1, c1⟩ := h ρ e
  unfold dAnd
  rw [bd_eq e1]
  cases p with
  | false => exact ⟨ρ1, rfl, by simpa using c1⟩
  | true =>
    obtain ⟨ρ2, e2, c2⟩ := h2 rfl ρ1 c1
    exact ⟨ρ2, by simpa using e2, by simpa using c2⟩
end
/-! loops with exits, by an invariant -/
/-! the node at a path and its kids -/
end TL
namespace TL
open PySem L2 DL
end TL
namespace TL
end TL
/-! TL28: t.index(x), dicts with ints or tuples as keys -/
namespace TL
open PySem L2 DL
/-! association lists -/
section
variable {κ α : Type} [DecidableEq κ]
def hlook (kvs : List (κ × α)) (x : κ) : Option α := (kvs.find? fun p => decide (p.1 = x)).map (·.2)
def hput (kvs : List (κ × α)) (x : κ) (v : α) : List (κ × α) := if (kvs.any fun p => decide (p.1 = x)) = true then kvs.map fun p => if p.1 = x then (p.1, v) else p else kvs ++ [(x, v)]
def hkeys (kvs : List (κ × α)) : List κ := kvs.map (·.1)
theorem hlook_some {kvs : List (κ × α)} {x : κ} (h : x ∈ hkeys kvs) : ∃ v, hlook kvs x = some v ∧ (x, v) ∈ kvs := by
  unfold hlook
  cases e : kvs.find? fun p => decide (p.1 = x) with
  | none =>
    obtain ⟨p, hp, ep⟩ := List.mem_map.mp h
    have := List.find?_eq_none.mp e p hp
    simp [ep] at this
  | some p =>
    have h1 := List.find?_some e
    have h2 := List.mem_of_find?_eq_some e
    simp at h1
    exact ⟨p.2, rfl, by rw [← h1]; exact h2⟩
theorem hlook_none {kvs : List (κ × α)} {x : κ} (h : x ∉ hkeys kvs) : hlook kvs x = none := by
  unfold hlook
  rw [List.find?_eq_none.mpr fun p hp => ?_]; rfl
  simp only [decide_eq_true_eq]
  exact fun e => h (List.mem_map.mpr ⟨p, hp, e⟩)
theorem hlook_isSome {kvs : List (κ × α)} {x : κ} : (hlook kvs x).isSome = decide (x ∈ hkeys kvs) := by
  by_cases h : x ∈ hkeys kvs
  · obtain ⟨v, e, _⟩ := hlook_some h; rw [e, decide_eq_true h]; rfl
  · rw [hlook_none h, decide_eq_false h]; rfl
theorem hl_ne {x y : κ} {v : α} (h : y ≠ x) : ∀ kvs : List (κ × α), ((kvs.map fun p => if p.1 = x then (p.1, v) else p).find? fun p => decide (p.1 = y)).map (·.2) = (kvs.find? fun p => decide (p.1 = y)).map (·.2)
  | [] => rfl
  | p :: r => by
    rw [List.map_cons, List.find?_cons, List.find?_cons]
    by_cases e : p.1 = x
    · rw [if_pos e]
      have : p.1 ≠ y := fun z => h (by rw [← z, e])
      simp only [decide_eq_false this]
      exact hl_ne h r
    · rw [if_neg e]
      by_cases e2 : p.1 = y
      · simp [e2]
      · simp only [decide_eq_false e2]
        exact hl_ne h r
theorem hl_eq {x : κ} {v : α} : ∀ kvs : List (κ × α), (kvs.any fun p => decide (p.1 = x)) = true → ((kvs.map fun p => if p.1 = x then (p.1, v) else p).find? fun p => decide (p.1 = x)).map (·.2) = some v
  | [], h => by simp at h
  | p :: r, h => by
    rw [List.map_cons, List.find?_cons]
    by_cases e : p.1 = x
    · rw [if_pos e]; simp [e]
    · rw [if_neg e]
      simp only [decide_eq_false e]
      exact hl_eq r (by simpa [List.any_cons, e] using h)
theorem hlook_put {kvs : List (κ × α)} {x y : κ} {v : α} : hlook (hput kvs x v) y = if y = x then some v else hlook kvs y := by
  unfold hput hlook
  by_cases h : (kvs.any fun p => decide (p.1 = x)) = true
  · rw [if_pos h]
    by_cases e : y = x
    · subst e; rw [if_pos rfl]; exact hl_eq kvs h
    · rw [if_neg e]; exact hl_ne e kvs
  · rw [if_neg h, List.find?_append]
    by_cases e : y = x
    · subst e
      rw [List.find?_eq_none.mpr fun p hp z => h (List.any_eq_true.mpr ⟨p, hp, z⟩), if_pos rfl]
      simp
    · rw [if_neg e]
      have : ([(x, v)] : List (κ × α)).find? (fun p => decide (p.1 = y)) = none := by
        simp [Ne.symm e]
      rw [this, Option.or_none]
theorem hkeys_put {kvs : List (κ × α)} {x y : κ} {v : α} : y ∈ hkeys (hput kvs x v) ↔ y = x ∨ y ∈ hkeys kvs := by
  rw [← decide_eq_true_iff (p := y ∈ hkeys (hput kvs x v)), ← hlook_isSome, hlook_put]
  by_cases e : y = x
  · simp [e]
  · rw [if_neg e, hlook_isSome]; simp [e]
theorem hkeys_nodup {kvs : List (κ × α)} {x : κ} {v : α} (h : (hkeys kvs).Nodup) : (hkeys (hput kvs x v)).Nodup := by
  unfold hput
  split
  · have : hkeys (kvs.map fun p => if p.1 = x then (p.1, v) else p) = hkeys kvs := by
      unfold hkeys
      rw [List.map_map]
      refine List.map_congr_left fun p _ => ?_
      simp only [Function.comp]
      split <;> rfl
    rw [this]; exact h
  · rename_i hn
    unfold hkeys at h ⊢
    rw [List.map_append]
    refine List.nodup_append.mpr ⟨h, by simp, fun a ha b hb e => ?_⟩
    simp at hb
    subst hb; subst e
    obtain ⟨p, hp, ep⟩ := List.mem_map.mp ha
    exact hn (List.any_eq_true.mpr ⟨p, hp, decide_eq_true ep⟩)
end
/-! tuples as keys -/
/-- values that are keys -/
structure NkE (n : Nat) {α : Type} (enc : α → D) : Prop where
  ok : ∀ x, ∃ k, nkOf (enc x) = some k ∧ k.depth ≤ n
  inj : ∀ x y, enc x = enc y → x = y
structure TkE {α : Type} (enc : α → D) : Prop where
  ok : ∀ x, ∃ k, tkOf (enc x) = some k
  inj : ∀ x y, enc x = enc y → x = y
section
variable {α β γ : Type} {ea : α → D} {eb : β → D} {ec : γ → D} {n : Nat}
theorem nk_s : NkE n eS := ⟨fun x => ⟨.text x.1, by simp only [nkOf], Nat.zero_le _⟩, fun x y e => by
  injection e with e; exact Subtype.ext e⟩
theorem nkA {ds : List D} (h : ∀ d ∈ ds, ∃ k, nkOf d = some k ∧ k.depth ≤ n) : ∃ ks, nkOfA ds = some ks ∧ NestedKey.depthAll ks ≤ n := by
  induction ds with
  | nil => exact ⟨[], by simp only [nkOfA], by simp only [NestedKey.depthAll]; omega⟩
  | cons d ds ih =>
    obtain ⟨k, e1, h1⟩ := h d (by simp)
    obtain ⟨ks, e2, h2⟩ := ih fun d hd => h d (by simp [hd])
    exact ⟨k :: ks, by simp only [nkOfA, e1, e2], by simp only [NestedKey.depthAll]; omega⟩
theorem nkT {ds : List D} (h : ∀ d ∈ ds, ∃ k, nkOf d = some k ∧ k.depth ≤ n) : ∃ k, nkOf (.tuple ds) = some k ∧ k.depth ≤ n + 1 := by
  obtain ⟨ks, e, h1⟩ := nkA h
  exact ⟨.tup ks, by simp only [nkOf, e, Option.map_some], by simp only [NestedKey.depth]; omega⟩
theorem map_inj' (h : ∀ x y, ea x = ea y → x = y) : ∀ xs ys : List α, xs.map ea = ys.map ea → xs = ys
  | [], [], _ => rfl
  | [], _ :: _, e => by simp at e
  | _ :: _, [], e => by simp at e
  | x :: xs, y :: ys, e => by
    rw [List.map_cons, List.map_cons] at e
    injection e with e1 e2
    rw [h _ _ e1, map_inj' h xs ys e2]
theorem nk_T (h : NkE n ea) : NkE (n + 1) (eT ea) := ⟨fun xs => nkT fun d hd => by
  obtain ⟨x, _, rfl⟩ := List.mem_map.mp hd; exact h.ok x, fun x y e => by
  injection e with e; exact map_inj' h.inj _ _ e⟩
theorem tkOf_of {ds : List D} {k : NK} (h : nkOf (.tuple ds) = some k) (hd : k.depth ≤ 8) : tkOf (.tuple ds) = some k := by
  unfold tkOf
  simp only [h, if_pos hd]
theorem tk_T (h : NkE n ea) (hn : n + 1 ≤ 8 := by decide) : TkE (eT ea) := ⟨fun x => by
  obtain ⟨k, e, hk⟩ := (nk_T h).ok x
  exact ⟨k, tkOf_of e (by omega)⟩, (nk_T h).inj⟩
end
/-- a dict with tuples as keys -/
abbrev eTd {κ α : Type} (ek : κ → D) (ev : α → D) (kvs : List (κ × α)) : D := .dict ((.none, .none) :: kvs.map fun p => (ek p.1, ev p.2))
section
variable {κ α : Type} [DecidableEq κ] {ek : κ → D} {ev : α → D} {kvs : List (κ × α)} {x : κ}
theorem tkOf_nk {d : D} {k : NK} (h : tkOf d = some k) : nkOf d = some k := by
  obtain ⟨e, _, _⟩ := tkOf_some h
  rw [e, nkOf_kN]
theorem TkE.at (t : TkE ek) {k : NK} (h : tkOf (ek x) = some k) (y : κ) : nkOf (ek y) = some k ↔ y = x := by
  constructor
  · intro e
    obtain ⟨k2, h2⟩ := t.ok y
    have e2 := tkOf_nk h2
    rw [e] at e2
    cases e2
    exact t.inj _ _ (by rw [(tkOf_some h2).1, (tkOf_some h).1])
  · rintro rfl; exact tkOf_nk h
theorem TkE.nn (t : TkE ek) {k : NK} (h : tkOf (ek x) = some k) : nkOf .none ≠ some k := fun e => by
  obtain ⟨e1, _, ds, e3⟩ := tkOf_some h
  simp only [nkOf] at e
  cases e
  rw [e3] at e1
  simp only [NestedKey.data] at e1
  cases e1
theorem dhasT_t (t : TkE ek) {k : NK} (h : tkOf (ek x) = some k) : dhasT k ((.none, .none) :: kvs.map fun p => (ek p.1, ev p.2)) = kvs.any fun p => decide (p.1 = x) := by
  show (decide (nkOf .none = some k) || (kvs.map _).any _) = _
  rw [decide_eq_false (t.nn h), Bool.false_or, List.any_map]
  refine congrArg (fun f => kvs.any f) (funext fun p => ?_)
  exact decide_eq_decide.mpr (t.at h p.1)
theorem any_look : (kvs.any fun p => decide (p.1 = x)) = (hlook kvs x).isSome := by
  unfold hlook
  rw [Option.isSome_map]
  cases e : kvs.find? fun p => decide (p.1 = x) with
  | none =>
    have := List.find?_eq_none.mp e
    rw [Option.isSome_none, List.any_eq_false]
    exact fun p hp => this p hp
  | some p =>
    have := List.find?_some e
    exact List.any_eq_true.mpr ⟨p, List.mem_of_find?_eq_some e, this⟩
theorem dputT_t (t : TkE ek) {v : α} {k : NK} (h : tkOf (ek x) = some k) : dputT k (ev v) ((.none, .none) :: kvs.map fun p => (ek p.1, ev p.2)) = (.none, .none) :: (hput kvs x v).map fun p => (ek p.1, ev p.2) := by
  unfold dputT hput
  rw [dhasT_t t h]
  split
  · rw [List.map_cons, if_neg (t.nn h), List.map_map, List.map_map]
    refine congrArg _ (List.map_congr_left fun p _ => ?_)
    simp only [Function.comp]
    by_cases e : p.1 = x
    · rw [if_pos ((t.at h _).mpr e), if_pos e]
    · rw [if_neg (fun z => e ((t.at h _).mp z)), if_neg e]
  · rw [List.map_append, List.cons_append, ← (tkOf_some h).1]; rfl
theorem gIn_td (t : TkE ek) {i : Decidable (x ∈ hkeys kvs)} : gIn (ek x) (eTd ek ev kvs) = some (@decide (x ∈ hkeys kvs) i) := by
  obtain ⟨k, hk⟩ := t.ok x
  have : gIn (ek x) (eTd ek ev kvs) = (tkOf (ek x)).map fun k => dhasT k ((.none, .none) :: kvs.map fun p => (ek p.1, ev p.2)) := by
    obtain ⟨_, _, ds, e⟩ := tkOf_some hk
    rw [e]
    rfl
  rw [this, hk, Option.map_some, dhasT_t t hk, any_look, hlook_isSome]
  exact congrArg some (dec_any _ _)
theorem gNotIn_td (t : TkE ek) {i : Decidable (x ∈ hkeys kvs)} : gNotIn (ek x) (eTd ek ev kvs) = some (!@decide (x ∈ hkeys kvs) i) := gNotIn_of (gIn_td t)
end
/-! readings -/
section
variable {E E1 E2 E3 : List Ms} {m a b c e fi fe : M Rs} {k ka kb kc : Kd} {α κ : Type} [DecidableEq κ] {enc : α → D} {ek : κ → D} {ev : α → D} {d d' : D} {kvs : List (κ × α)} {x : κ} {i : Nat}
theorem ev_newT : Ev E dNewT .new (eTd ek ev []) E := ⟨trivial, fun ρ e => ⟨_, ρ, rfl, rfl, e⟩⟩
theorem sg_putT {τ : Type} {P : τ → SR → Prop} {rest : DS} {w : τ} {v : α} (t : TkE ek) (he : Ev E fe k (ev v) E1) (hk : Ev (frzE k (ev v) E1) fi kb (ek x) E2) (hi0 : (frzE k (ev v) E1)[i]? = some (.ow d)) (hi : E2[i]? = some (.ow (eTd ek ev kvs))) (hl : kvs.length < 16777216) (h : Sg (E2.set i (.ow (eTd ek ev (hput kvs x v)))) rest P w) : Sg E (dSeq (dPutT i fi fe) rest) P w := fun ρ q => by
  obtain ⟨kk, hkk⟩ := t.ok x
  obtain ⟨r, ρ1, e1, q1, c1⟩ := he.2 ρ q
  obtain ⟨ρ2, e2, c2⟩ := frz_k q1 he.1 c1
  obtain ⟨rk, ρ3, e3, q3, c3⟩ := hk.2 ρ2 c2
  have e4 : dTKey fi ρ2 = .ok (ek x, kk) ρ3 := by unfold dTKey; rw [bd_eq e3, bd_eq (look_k q3 hk.1 c3), hkk]; rfl
  have hg : isK ((PyData.none, PyData.none) :: kvs.map fun p => (ek p.1, ev p.2)) = false ∧ ((PyData.none, PyData.none) :: kvs.map fun p => (ek p.1, ev p.2)).length ≤ sizeLine := ⟨rfl, by rw [List.length_cons, List.length_map, sizeLine_eq]; omega⟩
  have e5 : dPutT i fi fe ρ = .nx (ρ3.set i (.ow (eTd ek ev (hput kvs x v)))) := by
    unfold dPutT
    rw [bd_eq e1]
    simp only [e2, c2.own hi0, e4, c3.own hi]
    rw [if_pos hg, dputT_t t hkk]
  rw [seq_nx e5]
  exact h _ (c3.set i rfl)
end
end TL
namespace TL
theorem foldl_ix {σ α : Type} {P : Nat → σ → Prop} {f : σ → α → σ} : ∀ {xs : List α} {s : σ}, P 0 s → (∀ k s x, xs[k]? = some x → P k s → P (k + 1) (f s x)) → P xs.length (xs.foldl f s)
  | [], _, h, _ => h
  | x :: xs, s, h, hs => foldl_ix (P := fun k s => P (k + 1) s) (xs := xs) (s := f s x) (hs 0 s x rfl h) fun k s y hy => hs (k + 1) s y (by simpa using hy)
end TL
namespace TL
open PySem L2 DL
end TL
namespace TL
end TL
namespace TL
open PySem L2 DL
theorem ev_isiO {E E1 : List Ms} {a : M Rs} {k : Kd} {α : Type} {enc : α → D} {T : Ty} {o : Option α} {b : Bool} (ha : Ev E a k (eO enc o) E1) (h : o.isNone = false) (hT : ∀ x, isT T (enc x) = b) (hk : ∀ x, okTy (enc x) = true) : Ev E (dIsi T a) .val (.bool b) E1 := by
  cases o with
  | none => cases h
  | some x => exact (ev_isi ha (hk x)).eq (by rw [show eO enc (some x) = enc x from rfl, hT])
end TL
namespace TL
open PySem L2 DL
end TL
/-! TL29: lists in sorted rows; keys and values of two kinds (_law_from) -/
namespace TL
open PySem L2 DL
end TL
/-! TL30: _law_from and _law_flat (k02 k03 k04 k08 k09 k10 k58 k60 k72 .. k78) -/
namespace TL
open PySem L2 DL
/-- rows of a body, flat -/
abbrev FRow := List OkS × List OkS
mutual
def rwN (p : List OkS) : Nd → List FRow
  | .mk l w k => (p ++ [l], w) :: rwB (p ++ [l]) k
def rwB (p : List OkS) : List Nd → List FRow
  | [] => []
  | x :: xs => rwN p x ++ rwB p xs
end
theorem rwN_eq (p : List OkS) (x : Nd) : rwN p x = (p ++ [x.lab], x.words) :: rwB (p ++ [x.lab]) x.kids := by
  cases x; conv => lhs; unfold rwN
  rfl
theorem rwB_flat (p : List OkS) : ∀ b : List Nd, rwB p b = b.flatMap (rwN p)
  | [] => by unfold rwB; rfl
  | x :: b => by unfold rwB; rw [rwB_flat p b, List.flatMap_cons]
end TL
/-! TL31: xs.count(x), xs.remove(x); dicts with tuple keys as wholes -/
namespace TL
open PySem L2 DL
/-! sorted(d), list(d), len(d), dict(pairs), d with tuples as keys -/
end TL
/-! TL32: _law_from gives the body back: the parts -/
namespace TL
open PySem L2 DL
/-! the order of the rows -/
/-! the kids of each path, as they come -/
end TL
/-! TL33: the sorted rows of a sorted body, folded, give the body -/
namespace TL
open PySem L2 DL
/-- siblings stand in the order of their labels' keys, to depth n -/
def SrtB (key : OkS → Int × OkS) : Nat → List Nd → Prop
  | 0, b => b = []
  | n + 1, b => (b.Pairwise fun x y => key x.lab ≠ key y.lab ∧ ltG (e2 eI eS) (key x.lab) (key y.lab) = true) ∧ ∀ x ∈ b, SrtB key n x.kids
theorem fm_congr {α β : Type} {f g : α → List β} {b : List α} (h : ∀ x ∈ b, f x = g x) : b.flatMap f = b.flatMap g := by
  rw [List.flatMap_def, List.flatMap_def, List.map_congr_left h]
end TL
/-! TL34: _law_from of the flat rows of a sorted body is the body -/
namespace TL
open PySem L2 DL
end TL
/-! TL35: bodies that are built from sorted labels are sorted -/
namespace TL
open PySem L2 DL
end TL
/-! TL36: sorted(xs, key=f) -/
namespace TL
open PySem L2 DL
/-! equality of bodies -/
end TL
/-! TL37: list(text) -/
namespace TL
open PySem L2 DL
end TL
/-! TL38: amendments -/
namespace TL
open PySem L2 DL
inductive Amd where
  | put (p : List OkS) (nd : Nd) | strike (p : List OkS) | words (p : List OkS) (b : Nat) (old new : List OkS) | label (p : List OkS) (l : OkS) | move (p g : List OkS)
def Amd.nd : Amd → Nd
  | .put _ n => n | _ => nd0
def Amd.new : Amd → List OkS
  | .words _ _ _ n => n | _ => []
def Amd.lab : Amd → OkS
  | .label _ l => l | _ => dS0
end TL
/-! TL39: bodies with a node put and taken, by their flat rows -/
namespace TL
open PySem L2 DL
def OwnOk (b : List Nd) (path : List OkS) (x : Nd) : Prop := x ∈ b ∧ x.lab = path.getD 0 dS0 ∧ ownB b (path.getD 0 dS0) = x ∧ 0 < (b.filter fun y => decide (y.lab = path.getD 0 dS0)).length ∧ 0 < (path.drop 1).length ∧ ((path.drop 1).length = 1 ∨ (path.drop 1).dropLast ∈ prB x.kids)
theorem own_ok {P : OkS → List OkS → Prop} {n : Nat} {b : List Nd} {path : List OkS} (hW : WfB P (n + 1) b) (h0 : 0 < path.length) (hP : path.length = 1 ∨ path.dropLast ∈ prB b) (h1 : ¬ path.length = 1) : ∃ x, OwnOk b path x := by
  match path, h0, hP, h1 with
  | [l], _, _, h1 => exact absurd rfl h1
  | l :: k :: p, _, hP, h1 =>
    have hP := hP.resolve_left h1
    obtain ⟨x, hx, z⟩ := prB_mem.mp hP
    have z0 : l :: (k :: p).dropLast = [x.lab] ∨ ∃ q ∈ prB x.kids, l :: (k :: p).dropLast = x.lab :: q := z
    have hl : x.lab = l := by rcases z0 with z | ⟨q, _, z⟩ <;> (injection z with h _; exact h.symm)
    refine ⟨x, hx, hl, ownB_find hW.1 hx hl, List.length_pos_iff.mpr fun e => ?_, by simp, ?_⟩
    · have := List.filter_eq_nil_iff.mp e x hx
      exact this (decide_eq_true hl)
    · rcases z with z | ⟨q, hq, z⟩
      · left
        cases p with
        | nil => rfl
        | cons a p =>
          have z : l :: k :: (a :: p).dropLast = [x.lab] := z
          injection z with _ z; cases z
      · right
        have z : l :: (k :: p).dropLast = x.lab :: q := z
        injection z with _ z
        show (k :: p).dropLast ∈ _
        rw [z]; exact hq
theorem rw_mem {P : OkS → List OkS → Prop} : ∀ (n : Nat) (b : List Nd), WfB P n b → ∀ pre r, r ∈ rwB pre b → ∃ q, r.1 = pre ++ q ∧ q ≠ [] ∧ q.length ≤ n ∧ (∀ l ∈ q, ∃ w, P l w) ∧ ∃ l, P l r.2
  | 0, b, h, pre, r, hr => by
    have h : b = [] := h
    subst h; unfold rwB at hr; simp at hr
  | n + 1, b, h, pre, r, hr => by
    rw [rwB_flat] at hr
    obtain ⟨x, hx, hr⟩ := List.mem_flatMap.mp hr
    rw [rwN_eq] at hr
    obtain ⟨hp, hk⟩ := h.2 x hx
    rcases List.mem_cons.mp hr with z | z
    · subst z
      exact ⟨[x.lab], rfl, by simp, by simp, fun l hl => ⟨x.words, by simp at hl; rw [hl]; exact hp⟩, x.lab, hp⟩
    · obtain ⟨q, e, h1, h2, h3, h4⟩ := rw_mem n x.kids hk _ r z
      exact ⟨x.lab :: q, by rw [e]; simp, by simp, by rw [List.length_cons]; omega, fun l hl => (List.mem_cons.mp hl).elim (fun z => ⟨x.words, by rw [z]; exact hp⟩) (h3 l), h4⟩
abbrev PLk (Lok : OkS → Prop) (l : OkS) (_ : List OkS) : Prop := Lok l
section
variable {key : OkS → Int × OkS} {Lok : OkS → Prop}
/-! the prefix of a row's path -/
/-! siblings stay sorted -/
/-! without -/
/-! the rows below a path -/
abbrev pp (q : List OkS) (r : FRow) : Bool := decide (r.1.take q.length = q)
end
end TL
/-! TL40: amendments of flat rows; those apart pass -/
namespace TL
open PySem L2 DL
/-- begins so -/
abbrev Pf (t q : List OkS) : Prop := q.take t.length = t
/-- trees and free places; nodes that must be there -/
def tA : Amd → List (List OkS)
  | .put p _ => [p]
  | .strike p => [p]
  | .words .. => []
  | .label p l => [p, p.dropLast ++ [l]]
  | .move p g => [p, g]
def nA : Amd → List (List OkS)
  | .put p _ => [p.dropLast]
  | .strike _ => []
  | .words p .. => [p]
  | .label p l => [(p.dropLast ++ [l]).dropLast]
  | .move _ g => [g.dropLast]
structure Apt (a b : Amd) : Prop where
  l : ∀ t ∈ tA a, ∀ q ∈ tA b ++ nA b, ¬ Pf t q
  r : ∀ t ∈ tA b, ∀ q ∈ tA a ++ nA a, ¬ Pf t q
theorem Apt.symm {a b : Amd} (h : Apt a b) : Apt b a := ⟨h.r, h.l⟩
/-! prefixes -/
/-! paths behind an amendment -/
/-! words of one node, stretches apart -/
end TL
/-! TL41: the body of any rows: its depth, rows in another order; paths of a body are all different -/
namespace TL
open PySem L2 DL
end TL
/-! TL42: defs that may raise -/
namespace TL
open PySem L2 DL
/-- the exceptions of the program -/
inductive Xc where
  | unfit (w : OkS) | line (k : Int) | place (k : Int)
def exN : Xc → Xn
  | .unfit w => ⟨"Unfit", "word", eS w⟩
  | .line k => ⟨"BadLine", "line", eI k⟩
  | .place k => ⟨"BadText", "place", eI k⟩
inductive Xr (α : Type) where
  | ok (a : α) | ex (x : Xc)
def Xr.map {α β : Type} (f : α → β) : Xr α → Xr β
  | .ok a => .ok (f a)
  | .ex x => .ex x
section
variable {E E1 E2 E3 : List Ms} {m : MX} {k ke : Kd} {d : D} {i j : Nat} {f : M (List Rs)} {ks : List Kd} {ds : List D} {τ : Type} {P : τ → SR → Prop} {rest s s1 s2 body fb fs : DS} {α β γ σ : Type} {enc : α → D} {v : Xr α}
/-- .. of a try's body -/
def PT (R : γ → Rs → List Sl → Prop) (Ex : List Ms) (Eσ : σ → List Ms) : Ou (Xr γ) σ → SR → Prop
  | .rt (.ok v), .rt r ρ => R v r ρ
  | .rt (.ex x), .bad (some p) => p.1 = exN x ∧ Ec Ex p.2
  | .nx s, .nx ρ => Ec (Eσ s) ρ
  | _, _ => False
/-! ### loops whose turns may raise -/
/-! ### try -/
end
end TL
namespace TL
open PySem L2 DL
end TL
/-! TL43: amendments of bodies and of their rows -/
namespace TL
open PySem L2 DL
theorem rw_paths : ∀ (n : Nat) (b : List Nd), lvB b ≤ n → ∀ pre : List OkS, (rwB pre b).map (fun r => r.1) = (prB b).map (pre ++ ·)
  | 0, b, h, pre => by
    have : b = [] := by
      cases b with
      | nil => rfl
      | cons x b => have := lvB_le.mp h x (by simp); rw [lvN_eq] at this; omega
    subst this; rw [prB_nil]; unfold rwB; rfl
  | n + 1, b, h, pre => by
    rw [rwB_flat, prB_flat, List.map_flatMap, List.map_flatMap]
    refine fm_congr fun x hx => ?_
    have hk : lvB x.kids ≤ n := by have := lvB_le.mp h x hx; rw [lvN_eq] at this; omega
    rw [rwN_eq, prN_eq, List.map_cons, List.map_cons, rw_paths n x.kids hk, List.map_map]
    refine congrArg (_ :: ·) (List.map_congr_left fun p _ => ?_)
    simp
theorem rw_paths0 (b : List Nd) : (rwB [] b).map (fun r => r.1) = prB b := by
  rw [rw_paths (lvB b) b (Nat.le_refl _) []]
  exact (List.map_congr_left fun p _ => rfl).trans (List.map_id _)
theorem rw_len0 (b : List Nd) : (rwB [] b).length = szB b := by
  rw [← prB_len, ← rw_paths0, List.length_map]
section
variable {key : OkS → Int × OkS} {Lok : OkS → Prop}
theorem node_none' {b : List Nd} {p : List OkS} {n : Nat} (hW : WfB (PLk Lok) n b) (h0 : p ≠ []) : nodeP b p = none ↔ p ∉ prB b := by
  constructor
  · intro e hp
    obtain ⟨x, h, _⟩ := nodeP_mem (o := none) hW hp
    have h : nodeP b p = some x := h
    rw [h] at e; cases e
  · intro hp
    cases e : nodeP b p with
    | none => rfl
    | some x => exact absurd (nodeP_some h0 e) hp
end
end TL
/-! TL44: how deep bodies get behind bills: stretches of a path between the nodes that were put or moved -/
namespace TL
open PySem L2 DL
/-- so many of N lie on a path, behind its first a labels -/
def segs (N : List (List OkS)) (q : List OkS) (a : Nat) : Nat := N.countP fun t => decide (q.take t.length = t ∧ a < t.length)
/-- between nodes of N there are at most three labels -/
def DpI (N : List (List OkS)) (F : List FRow) : Prop := ∀ r ∈ F, ∀ a, r.1.length - a ≤ 3 * (1 + segs N r.1 a)
theorem segs_le (N : List (List OkS)) (q : List OkS) (a : Nat) : segs N q a ≤ N.length := List.countP_le_length
theorem DpI.len {N : List (List OkS)} {F : List FRow} (h : DpI N F) {r : FRow} (hr : r ∈ F) : r.1.length ≤ 3 * (1 + N.length) := by
  have := h r hr 0
  have := segs_le N r.1 0
  omega
theorem dpI_0 {F : List FRow} (h : ∀ r ∈ F, r.1.length ≤ 3) : DpI [] F := fun r hr a => by have := h r hr; omega
theorem countP_two {α : Type} {A B C : α → Bool} : ∀ {L : List α}, (∀ x ∈ L, A x = true → C x = true) → (∀ x ∈ L, B x = true → C x = true ∧ A x = false) → L.countP A + L.countP B ≤ L.countP C
  | [], _, _ => Nat.le_refl _
  | x :: L, h1, h2 => by
    have ih := countP_two (L := L) (fun y hy => h1 y (by simp [hy])) (fun y hy => h2 y (by simp [hy]))
    rw [List.countP_cons, List.countP_cons, List.countP_cons]
    have a1 := h1 x (by simp)
    have a2 := h2 x (by simp)
    cases hA : A x <;> cases hB : B x <;> cases hC : C x <;> simp_all <;> omega
end TL
/-! TL45: a body behind some amendments, and its rows in some order -/
namespace TL
open PySem L2 DL
section
variable {key : OkS → Int × OkS} {Lok : OkS → Prop}
/-- a body, its rows in some order, and how large it is -/
structure NowB (key : OkS → Int × OkS) (Lok : OkS → Prop) (W S K : Nat) (b : List Nd) (G : List FRow) : Prop where
  p : (rwB [] b).Perm G
  s : ∃ n, WfB (PLk Lok) n b ∧ SrtB key n b
  w : ∀ r ∈ G, r.2.length ≤ W
  n : G.length ≤ S
  d : ∃ N : List (List OkS), N.length ≤ K ∧ DpI N G
theorem NowB.le {W S K W' S' K' : Nat} {b : List Nd} {G : List FRow} (h : NowB key Lok W S K b G) (h1 : W ≤ W') (h2 : S ≤ S') (h3 : K ≤ K') : NowB key Lok W' S' K' b G := ⟨h.p, h.s, fun r hr => Nat.le_trans (h.w r hr) h1, Nat.le_trans h.n h2, by obtain ⟨N, q, z⟩ := h.d; exact ⟨N, Nat.le_trans q h3, z⟩⟩
theorem NowB.of {W S n : Nat} {b : List Nd} (hW : WfB (fun l w => Lok l ∧ w.length ≤ W) n b) (hn : n ≤ 3) (hS : SrtB key n b) (hz : szB b ≤ S) : NowB key Lok W S 0 b (rwB [] b) := ⟨List.Perm.refl _, ⟨n, wfB_imp (fun _ _ z => z.1) hW, hS⟩, fun r hr => by
  obtain ⟨q, _, _, _, _, l, z⟩ := rw_mem n b hW [] r hr
  exact z.2, by rw [rw_len0]; exact hz, [], Nat.le_refl _, dpI_0 fun r hr => by
  obtain ⟨q, e, _, z, _⟩ := rw_mem n b hW [] r hr
  rw [e]; show ([] ++ q).length ≤ 3; rw [List.nil_append]; omega⟩
end
end TL
/-! TL46: what stands at a path, by its kids; bills that are run one by one -/
namespace TL
open PySem L2 DL
end TL
/-! TL47: texts split and joined -/
namespace TL
open PySem L2 DL
/-- the parts of a text between the places of another one -/
def sSplit (s t : OkS) : List OkS := (TL.spl (chs t) 0 [] (chs s)).map mkS
theorem spl_mem {S : List Nat} : ∀ (n : Nat) (l acc : List Nat), l.length ≤ n → ∀ p ∈ TL.spl S 0 acc l, ∀ c ∈ p, c ∈ acc ∨ c ∈ l
  | n, [], acc, _, p, hp, c, hc => by
    rw [TL.spl_nil] at hp
    rw [List.mem_singleton.mp hp] at hc
    exact .inl hc
  | 0, x :: l, acc, h, _, _, _, _ => by simp at h
  | n + 1, x :: l, acc, h, p, hp, c, hc => by
    rw [List.length_cons] at h
    cases e : TL.pre S (x :: l) with
    | true =>
      rw [TL.spl_hit e] at hp
      rcases List.mem_cons.mp hp with z | z
      · rw [z] at hc; exact .inl hc
      · rw [TL.spl_pass] at z
        rcases spl_mem n (l.drop (S.length - 1)) [] (by rw [List.length_drop]; omega) p z c hc with y | y
        · simp at y
        · exact .inr (List.mem_cons_of_mem _ (List.mem_of_mem_drop y))
    | false =>
      rw [TL.spl_miss e] at hp
      rcases spl_mem n l (acc ++ [x]) (by omega) p hp c hc with y | y
      · rcases List.mem_append.mp y with z | z
        · exact .inl z
        · rw [List.mem_singleton.mp z]; exact .inr (by simp)
      · exact .inr (List.mem_cons_of_mem _ y)
theorem spl_ok (s t : OkS) {p : List Nat} (hp : p ∈ TL.spl (chs t) 0 [] (chs s)) : okL p = true := okL_sub (chs_ok s) fun c hc => by
  rcases spl_mem _ (chs s) [] (Nat.le_refl _) p hp c hc with y | y
  · simp at y
  · exact y
theorem spl_len {S : List Nat} : ∀ (n : Nat) (l acc : List Nat), l.length ≤ n → (TL.spl S 0 acc l).length ≤ l.length + 1 ∧ ∀ p ∈ TL.spl S 0 acc l, p.length ≤ acc.length + l.length
  | n, [], acc, _ => by rw [TL.spl_nil]; simp
  | 0, x :: l, acc, h => by simp at h
  | n + 1, x :: l, acc, h => by
    rw [List.length_cons] at h
    cases e : TL.pre S (x :: l) with
    | true =>
      rw [TL.spl_hit e, TL.spl_pass]
      have ih := spl_len (S := S) n (l.drop (S.length - 1)) [] (by rw [List.length_drop]; omega)
      have hd : (l.drop (S.length - 1)).length ≤ l.length := by rw [List.length_drop]; omega
      refine ⟨by rw [List.length_cons, List.length_cons]; omega, fun p hp => ?_⟩
      rcases List.mem_cons.mp hp with z | z
      · rw [z]; omega
      · have := ih.2 p z
        rw [List.length_nil] at this
        rw [List.length_cons]; omega
    | false =>
      rw [TL.spl_miss e]
      have ih := spl_len (S := S) n l (acc ++ [x]) (by omega)
      refine ⟨by rw [List.length_cons]; omega, fun p hp => ?_⟩
      have := ih.2 p hp
      rw [List.length_append] at this
      simp only [List.length_cons, List.length_nil] at this ⊢
      omega
theorem sSplit_len (s t : OkS) : (sSplit s t).length ≤ slen s + 1 := by
  unfold sSplit
  rw [List.length_map]
  exact (spl_len _ _ [] (Nat.le_refl _)).1
theorem sSplit_mem {s t p : OkS} (h : p ∈ sSplit s t) : slen p ≤ slen s ∧ ∀ c ∈ chs p, c ∈ chs s := by
  obtain ⟨q, hq, e⟩ := List.mem_map.mp h
  have ho := spl_ok s t hq
  have h1 := (spl_len (S := chs t) _ (chs s) [] (Nat.le_refl _)).2 q hq
  subst e
  unfold slen
  rw [mkS_chs ho]
  exact ⟨by simpa using h1, fun c hc => by
    rcases spl_mem _ (chs s) [] (Nat.le_refl _) q hq c hc with y | y
    · simp at y
    · exact y⟩
section
variable {E E1 E2 : List Ms} {a b : M Rs} {ka kb : Kd} {s t : OkS} {ws : List OkS}
theorem eS_lst (L : List (List Nat)) (h : ∀ p ∈ L, okL p = true) : (L.map SX.S).map PyData.str = (L.map mkS).map eS := by
  rw [List.map_map, List.map_map]
  refine List.map_congr_left fun p hp => ?_
  show PyData.str (SX.S p) = .str (mkS p).1
  rw [mkS_val (h p hp)]
theorem str_S (s : OkS) : s.1 = SX.S (chs s) := by
  show s.1 = ⟨s.1.cps.toList.toArray⟩
  rw [Array.toArray_toList]
theorem ev_split (ha : Ev E a ka (.str s.1) E1) (hb : Ev E1 b kb (.str t.1) E2) (h1 : slen s ≤ 1000000) (h2 : (!(chs t).isEmpty && (chs t).all fun x => decide (x < 256)) = true) (hr : Rdk ka (.str s.1) E2 := by repeat (first | exact True.intro | exact rfl | apply And.intro)) :
    Ev E (dMe isStr gSplit a (dCons b dNil)) .new (eL eS (sSplit s t)) E2 := by
  rw [Bool.and_eq_true] at h2
  have hne : chs t ≠ [] := by simpa using h2.1
  refine ev_me (r := .ow (eL eS (sSplit s t))) ha rfl (ea_cons hb ea_nil) ⟨hb.1, trivial⟩ ?_ rfl hr
  show (if (t.1.length == 0) = false ∧ s.1.length + 2 ≤ sizeLine then some (Rs.ow (.list ((Txt.split s.1 t.1).map .str))) else none) = _
  rw [str_len, str_len, if_pos ⟨by
    have := List.length_pos_iff.mpr hne
    have h3 : slen t ≠ 0 := by unfold slen; omega
    simpa using h3, by rw [sizeLine_eq]; omega⟩, str_S s, str_S t, SX.split_S hne h2.2, eS_lst _ fun p hp => spl_ok s t hp]
  rfl
end
end TL
/-! TL48: rings along links, found by a search of rows -/
namespace TL
open PySem L2 DL
theorem and1 {a b : Bool} (h : (a && b) = true) : a = true := by cases a <;> simp_all
theorem slen_dropN (s : OkS) (n : Nat) : slen (sDrop s n) ≤ slen s := by
  unfold slen sDrop
  rw [mkS_chs (okL_sub (chs_ok s) (fun c h => List.mem_of_mem_drop h)), List.length_drop]
  omega
theorem slen_takeN (s : OkS) (n : Nat) : slen (sTake s n) ≤ slen s := by
  unfold slen sTake
  rw [mkS_chs (okL_sub (chs_ok s) (fun c h => List.mem_of_mem_take h)), List.length_take]
  omega
theorem fold_bd {α β : Type} {f : List β → α → List β} (h : ∀ s x, (f s x).length ≤ s.length + 1) : ∀ (L : List α) (s : List β), (L.foldl f s).length ≤ s.length + L.length
  | [], s => Nat.le_refl _
  | x :: L, s => by
    rw [List.foldl_cons, List.length_cons]
    have := fold_bd h L (f s x)
    have := h s x
    omega
theorem whO_ind {γ σ : Type} {c : σ → Bool} {f : σ → Ou γ σ} {I : σ → Prop} {R : γ → Prop} {μ : σ → Nat} (hi : ∀ s, I s → c s = true → match f s with | .nx s' => I s' ∧ μ s' < μ s | .bk s' => False | .rt v => R v) : ∀ (N : Nat) (s : σ), I s → μ s < N → match whO c f N s with
    | .nx s' => I s' ∧ c s' = false
    | .bk _ => False
    | .rt v => R v
  | 0, s, _, hm => absurd hm (Nat.not_lt_zero _)
  | n + 1, s, h, hm => by
    unfold whO
    cases hc : c s with
    | false => rw [if_neg (by simp)]; exact ⟨h, hc⟩
    | true =>
      rw [if_pos rfl]
      have q := hi s h hc
      cases e : f s with
      | rt v => rw [e] at q; exact q
      | bk s' => rw [e] at q; exact q.elim
      | nx s' => rw [e] at q; exact whO_ind hi n s' q.1 (by have := q.2; omega)
section
variable {α : Type} [DecidableEq α] {E : List (α × α)} {first : α} {d : α}
/-- a row of links from the first on -/
structure RowF (E : List (α × α)) (first d : α) (r : List α) : Prop where
  h : r.head? = some first
  l : ∀ k, k + 1 < r.length → (r.getD k d, r.getD (k + 1) d) ∈ E
theorem RowF.ne {r : List α} (h : RowF E first d r) : r ≠ [] := fun e => by have := h.h; rw [e] at this; cases this
theorem RowF.at0 {r : List α} (h : RowF E first d r) : r.getD 0 d = first := by
  have := h.h
  cases r with
  | nil => cases this
  | cons a r => cases this; rfl
theorem rowF_one : RowF E first d [first] := ⟨rfl, fun k h => by simp at h⟩
theorem getD_app1 {r : List α} {x : α} {k : Nat} (h : k < r.length) : (r ++ [x]).getD k d = r.getD k d := by
  rw [List.getD_eq_getElem?_getD, List.getD_eq_getElem?_getD, List.getElem?_append_left h]
theorem getD_app2 {r : List α} {x : α} : (r ++ [x]).getD r.length d = x := by
  rw [List.getD_eq_getElem?_getD]; simp
theorem getLast_at {r : List α} (h : r ≠ []) : r.getLastD d = r.getD (r.length - 1) d := by
  rw [List.getLastD_eq_getLast?, List.getLast?_eq_getElem?, List.getD_eq_getElem?_getD]
theorem RowF.snoc {r : List α} {x : α} (h : RowF E first d r) (hx : (r.getLastD d, x) ∈ E) : RowF E first d (r ++ [x]) := by
  have h0 := h.ne
  have hl := List.length_pos_iff.mpr h0
  refine ⟨?_, fun k hk => ?_⟩
  · have := h.h
    cases r with
    | nil => cases this
    | cons a r => exact this
  · rw [List.length_append] at hk
    simp only [List.length_cons, List.length_nil] at hk
    by_cases c : k + 1 < r.length
    · rw [getD_app1 (by omega), getD_app1 c]; exact h.l k c
    · have : k + 1 = r.length := by omega
      rw [this, getD_app2, getD_app1 (by omega)]
      rw [getLast_at h0, show r.length - 1 = k by omega] at hx
      exact hx
/-- a ring through the first -/
structure Ring (E : List (α × α)) (first d : α) (r : List α) : Prop where
  f : RowF E first d r
  c : (r.getLastD d, first) ∈ E
structure Shortest (E : List (α × α)) (first d : α) (r : List α) : Prop where
  g : Ring E first d r
  m : ∀ c, Ring E first d c → r.length ≤ c.length
/-- the rows of a search -/
structure BfI (E : List (α × α)) (first d : α) (met : List α) (rows : List (List α)) (at_ : Nat) : Prop where
  z : rows.getD 0 [] = [first]
  n : 0 < rows.length
  f : ∀ r ∈ rows, RowF E first d r
  mono : rows.Pairwise fun a b => a.length ≤ b.length
  ix : ∀ i, i < rows.length → (rows.getD i []).length ≤ i + 1
  up : at_ < rows.length → ∀ r ∈ rows, r.length ≤ (rows.getD at_ []).length + 1
  met : ∀ x ∈ met, x ≠ first ∧ ∃ j, j < rows.length ∧ (rows.getD j []).getLastD d = x
  dn : ∀ i, i < at_ → ∀ y, ((rows.getD i []).getLastD d, y) ∈ E → y ≠ first ∧ ∃ j, j < rows.length ∧ (rows.getD j []).getLastD d = y ∧ (rows.getD j []).length ≤ (rows.getD i []).length + 1
  le : at_ ≤ rows.length
theorem bf_0 : BfI E first d [] [[first]] 0 := ⟨rfl, by simp, fun r hr => by rw [List.mem_singleton.mp hr]; exact rowF_one, by simp, fun i hi => by
    have : i = 0 := by simp at hi; exact hi
    subst this; exact Nat.le_refl _, fun _ r hr => by rw [List.mem_singleton.mp hr]; exact Nat.le_succ _, fun x hx => by simp at hx, fun i hi => absurd hi (Nat.not_lt_zero _), Nat.zero_le _⟩
theorem mono_at {rows : List (List α)} (h : rows.Pairwise fun a b => a.length ≤ b.length) {i j : Nat} (hij : i ≤ j) (hj : j < rows.length) : (rows.getD i []).length ≤ (rows.getD j []).length := by
  have e1 : rows.getD i [] = rows[i]'(by omega) := by rw [List.getD_eq_getElem?_getD, List.getElem?_eq_getElem (by omega)]; rfl
  have e2 : rows.getD j [] = rows[j] := by rw [List.getD_eq_getElem?_getD, List.getElem?_eq_getElem hj]; rfl
  rw [e1, e2]
  rcases Nat.lt_or_ge i j with c | c
  · exact List.pairwise_iff_getElem.mp h i j (by omega) hj c
  · have : i = j := by omega
    subst this; exact Nat.le_refl _
/-- .. while links of the row at a place are looked at -/
structure BfJ (E : List (α × α)) (first d : α) (pre : List (α × α)) (met : List α) (rows : List (List α)) (at_ : Nat) : Prop where
  b : BfI E first d met rows at_
  a : at_ < rows.length
  p : ∀ y, ((rows.getD at_ []).getLastD d, y) ∈ pre → y ≠ first ∧ ∃ j, j < rows.length ∧ (rows.getD j []).getLastD d = y ∧ (rows.getD j []).length ≤ (rows.getD at_ []).length + 1
theorem bfJ_0 {met : List α} {rows : List (List α)} {at_ : Nat} (h : BfI E first d met rows at_) (ha : at_ < rows.length) : BfJ E first d [] met rows at_ := ⟨h, ha, fun y hy => by simp at hy⟩
theorem bfJ_end {met : List α} {rows : List (List α)} {at_ : Nat} (h : BfJ E first d E met rows at_) : BfI E first d met rows (at_ + 1) := by
  obtain ⟨b, a, p⟩ := h
  refine ⟨b.z, b.n, b.f, b.mono, b.ix, fun hl r hr => ?_, b.met, fun i hi y hy => ?_, a⟩
  · have h1 := b.up a r hr
    have h2 := mono_at b.mono (by omega : at_ ≤ at_ + 1) hl
    omega
  · rcases Nat.lt_or_ge i at_ with c | c
    · exact b.dn i c y hy
    · have : i = at_ := by omega
      subst this; exact p y hy
theorem bfJ_skip {pre : List (α × α)} {met : List α} {rows : List (List α)} {at_ : Nat} {x : α × α} (h : BfJ E first d pre met rows at_) (hx : x.1 ≠ (rows.getD at_ []).getLastD d) : BfJ E first d (pre ++ [x]) met rows at_ := ⟨h.b, h.a, fun y hy => by
  rcases List.mem_append.mp hy with z | z
  · exact h.p y z
  · rw [← List.mem_singleton.mp z] at hx
    exact absurd rfl hx⟩
theorem bfJ_met {pre : List (α × α)} {met : List α} {rows : List (List α)} {at_ : Nat} {x : α × α} (h : BfJ E first d pre met rows at_) (hf : x.2 ≠ first) (hm : x.2 ∈ met) : BfJ E first d (pre ++ [x]) met rows at_ := ⟨h.b, h.a, fun y hy => by
  rcases List.mem_append.mp hy with z | z
  · exact h.p y z
  · have e := List.mem_singleton.mp z
    have e2 : y = x.2 := by rw [← e]
    rw [e2]
    refine ⟨hf, ?_⟩
    obtain ⟨_, j, hj, e3⟩ := h.b.met x.2 hm
    refine ⟨j, hj, e3, h.b.up h.a _ ?_⟩
    rw [List.getD_eq_getElem?_getD, List.getElem?_eq_getElem hj]; exact List.getElem_mem hj⟩
theorem getD_snoc1 {rows : List (List α)} {r : List α} {i : Nat} (h : i < rows.length) : (rows ++ [r]).getD i [] = rows.getD i [] := by
  rw [List.getD_eq_getElem?_getD, List.getD_eq_getElem?_getD, List.getElem?_append_left h]
theorem getD_snoc2 {rows : List (List α)} {r : List α} : (rows ++ [r]).getD rows.length [] = r := by
  rw [List.getD_eq_getElem?_getD]; simp
theorem bfJ_new {pre : List (α × α)} {met met' : List α} {rows : List (List α)} {at_ : Nat} {x : α × α} (h : BfJ E first d pre met rows at_) (hE : x ∈ E) (h1 : x.1 = (rows.getD at_ []).getLastD d) (hf : x.2 ≠ first) (hm' : ∀ y ∈ met', y = x.2 ∨ y ∈ met) : BfJ E first d (pre ++ [x]) met' (rows ++ [rows.getD at_ [] ++ [x.2]]) at_ := by
  obtain ⟨b, a, p⟩ := h
  have hat : rows.getD at_ [] ∈ rows := by
    rw [List.getD_eq_getElem?_getD, List.getElem?_eq_getElem a]; exact List.getElem_mem a
  have hnew : RowF E first d (rows.getD at_ [] ++ [x.2]) := (b.f _ hat).snoc (by rw [← h1]; exact hE)
  have hlen : (rows ++ [rows.getD at_ [] ++ [x.2]]).length = rows.length + 1 := by simp
  have hnl : (rows.getD at_ [] ++ [x.2]).length = (rows.getD at_ []).length + 1 := by simp
  have keep : ∀ {i : Nat}, i < rows.length → (rows ++ [rows.getD at_ [] ++ [x.2]]).getD i [] = rows.getD i [] := fun hi => getD_snoc1 hi
  have newl : (rows.getD at_ [] ++ [x.2]).getLastD d = x.2 := by rw [List.getLastD_eq_getLast?]; simp
  refine ⟨⟨by rw [keep b.n]; exact b.z, by rw [hlen]; omega, fun r hr => ?_, ?_, fun i hi => ?_, fun _ r hr => ?_, fun y hy => ?_, fun i hi y hy => ?_, by rw [hlen]; have := b.le; omega⟩, by rw [hlen]; omega, fun y hy => ?_⟩
  · rcases List.mem_append.mp hr with z | z
    · exact b.f r z
    · rw [List.mem_singleton.mp z]; exact hnew
  · refine List.pairwise_append.mpr ⟨b.mono, by simp, fun r hr s hs => ?_⟩
    rw [List.mem_singleton.mp hs, hnl]
    exact b.up a r hr
  · rw [hlen] at hi
    by_cases c : i < rows.length
    · rw [keep c]; exact b.ix i c
    · have : i = rows.length := by omega
      subst this
      rw [getD_snoc2, hnl]
      have := b.ix at_ a
      omega
  · rw [keep a]
    rcases List.mem_append.mp hr with z | z
    · exact b.up a r z
    · rw [List.mem_singleton.mp z, hnl]; exact Nat.le_refl _
  · rcases hm' y hy with z | z
    · rw [z]; exact ⟨hf, rows.length, by rw [hlen]; omega, by rw [getD_snoc2]; exact newl⟩
    · obtain ⟨q, j, hj, e⟩ := b.met y z
      exact ⟨q, j, by rw [hlen]; omega, by rw [keep hj]; exact e⟩
  · rw [keep (by omega : i < rows.length)] at hy ⊢
    obtain ⟨q, j, hj, e1, e2⟩ := b.dn i hi y hy
    exact ⟨q, j, by rw [hlen]; omega, by rw [keep hj]; exact e1, by rw [keep hj]; exact e2⟩
  · rw [keep a] at hy ⊢
    rcases List.mem_append.mp hy with z | z
    · obtain ⟨q, j, hj, e1, e2⟩ := p y z
      exact ⟨q, j, by rw [hlen]; omega, by rw [keep hj]; exact e1, by rw [keep hj]; exact e2⟩
    · have e := List.mem_singleton.mp z
      have e2 : y = x.2 := by rw [← e]
      rw [e2]
      exact ⟨hf, rows.length, by rw [hlen]; omega, by rw [getD_snoc2]; exact newl, by rw [getD_snoc2, hnl]; exact Nat.le_refl _⟩
/-- each place of a ring has a row, as far as rows are looked at -/
theorem bf_walk {met : List α} {rows : List (List α)} {at_ : Nat} (h : BfI E first d met rows at_) {c : List α} (hc : Ring E first d c) (hall : ∀ i, i < rows.length → (rows.getD i []).length ≤ c.length → i < at_) : False := by
  have hc0 := List.length_pos_iff.mpr hc.f.ne
  have step : ∀ j, j < c.length → ∃ i, i < rows.length ∧ (rows.getD i []).getLastD d = c.getD j d ∧ (rows.getD i []).length ≤ j + 1 := by
    intro j
    induction j with
    | zero => intro _; exact ⟨0, h.n, by rw [h.z, hc.f.at0]; rfl, by rw [h.z]; exact Nat.le_refl _⟩
    | succ j ih =>
      intro hj
      obtain ⟨i, hi, e1, e2⟩ := ih (by omega)
      have hlt := hall i hi (by omega)
      have hl := hc.f.l j hj
      rw [← e1] at hl
      obtain ⟨_, k, hk, e3, e4⟩ := h.dn i hlt _ hl
      exact ⟨k, hk, e3, by omega⟩
  obtain ⟨i, hi, e1, e2⟩ := step (c.length - 1) (by omega)
  have hlt := hall i hi (by omega)
  have hl := hc.c
  rw [getLast_at hc.f.ne, ← e1] at hl
  exact (h.dn i hlt _ hl).1 rfl
/-- the ring that is found is a shortest one -/
theorem bf_found {met : List α} {rows : List (List α)} {at_ : Nat} (h : BfI E first d met rows at_) (ha : at_ < rows.length) (hc : ((rows.getD at_ []).getLastD d, first) ∈ E) : Shortest E first d (rows.getD at_ []) ∧ (rows.getD at_ []).length ≤ at_ + 1 := by
  have hat : rows.getD at_ [] ∈ rows := by
    rw [List.getD_eq_getElem?_getD, List.getElem?_eq_getElem ha]; exact List.getElem_mem ha
  refine ⟨⟨⟨h.f _ hat, hc⟩, fun c hr => Classical.byContradiction fun hn => ?_⟩, h.ix at_ ha⟩
  refine bf_walk h hr fun i hi hl => Classical.byContradiction fun hk => ?_
  have := mono_at h.mono (Nat.le_of_not_lt hk) hi
  omega
theorem bf_none {met : List α} {rows : List (List α)} (h : BfI E first d met rows rows.length) : ∀ c, ¬ Ring E first d c := fun c hr => bf_walk h hr fun i hi _ => hi
/-! layers -/
structure LayI (E : List (α × α)) (first d : α) (t : Nat) (layer met : List α) : Prop where
  s : ∀ x ∈ layer, ∃ r, RowF E first d r ∧ r.getLastD d = x ∧ r.length = t + 1
  m : ∀ x ∈ met, ∃ r, RowF E first d r ∧ r.getLastD d = x ∧ r.length ≤ t + 1 ∧ 2 ≤ r.length
theorem lay_0 : LayI E first d 0 [first] [] := ⟨fun x hx => ⟨[first], rowF_one, by rw [List.mem_singleton.mp hx]; rfl, rfl⟩, fun x hx => by simp at hx⟩
/-- what follows a layer -/
theorem lay_later {t : Nat} {layer met later : List α} (h : LayI E first d t layer met) (hl : ∀ x, x ∈ later ↔ ∃ y ∈ layer, (y, x) ∈ E) {x : α} (hx : x ∈ later) : ∃ r, RowF E first d r ∧ r.getLastD d = x ∧ r.length = t + 2 := by
  obtain ⟨y, hy, he⟩ := (hl x).mp hx
  obtain ⟨r, h1, h2, h3⟩ := h.s y hy
  exact ⟨r ++ [x], h1.snoc (by rw [h2]; exact he), by rw [List.getLastD_eq_getLast?]; simp, by rw [List.length_append, h3]; rfl⟩
theorem lay_step {t : Nat} {layer met later layer' met' : List α} (h : LayI E first d t layer met) (hl : ∀ x, x ∈ later ↔ ∃ y ∈ layer, (y, x) ∈ E) (h1 : ∀ x ∈ layer', x ∈ later) (h2 : ∀ x ∈ met', x ∈ met ∨ x ∈ layer') : LayI E first d (t + 1) layer' met' := by
  refine ⟨fun x hx => lay_later h hl (h1 x hx), fun x hx => ?_⟩
  rcases h2 x hx with z | z
  · obtain ⟨r, h1, h2, h3, h4⟩ := h.m x z
    exact ⟨r, h1, h2, by omega, h4⟩
  · obtain ⟨r, h1, h2, h3⟩ := lay_later h hl (h1 x z)
    exact ⟨r, h1, h2, by omega, by omega⟩
/-- a ring out of a row to a place and the rest of another -/
theorem ring_cut {c r : List α} (hc : Ring E first d c) {j : Nat} (hj : j < c.length) (hr : RowF E first d r) (he : r.getLastD d = c.getD j d) : Ring E first d (r ++ c.drop (j + 1)) := by
  have h0 := List.length_pos_iff.mpr hr.ne
  have ga : ∀ k, k < r.length → (r ++ c.drop (j + 1)).getD k d = r.getD k d := fun k hk => by
    rw [List.getD_eq_getElem?_getD, List.getD_eq_getElem?_getD, List.getElem?_append_left hk]
  have gb : ∀ k, r.length ≤ k → (r ++ c.drop (j + 1)).getD k d = c.getD (k - r.length + (j + 1)) d := fun k hk => by
    rw [List.getD_eq_getElem?_getD, List.getD_eq_getElem?_getD, List.getElem?_append_right hk, List.getElem?_drop, Nat.add_comm]
  refine ⟨⟨?_, fun k hk => ?_⟩, ?_⟩
  · have := hr.h
    cases r with
    | nil => cases this
    | cons a r => exact this
  · rw [List.length_append, List.length_drop] at hk
    by_cases c1 : k + 1 < r.length
    · rw [ga k (by omega), ga _ c1]; exact hr.l k c1
    · by_cases c2 : k + 1 = r.length
      · rw [ga k (by omega), gb (k + 1) (by omega)]
        have e1 : r.getD k d = c.getD j d := by rw [← he, getLast_at hr.ne, ← c2]; rfl
        rw [e1, show k + 1 - r.length + (j + 1) = j + 1 by omega]
        exact hc.f.l j (by omega)
      · rw [gb k (by omega), gb (k + 1) (by omega)]
        have := hc.f.l (k - r.length + (j + 1)) (by omega)
        rw [show k + 1 - r.length + (j + 1) = k - r.length + (j + 1) + 1 by omega]
        exact this
  · have hn : r ++ c.drop (j + 1) ≠ [] := by simp [hr.ne]
    rw [getLast_at hn, List.length_append, List.length_drop]
    have hl := hc.c
    rw [getLast_at hc.f.ne] at hl
    by_cases c1 : j + 1 < c.length
    · rw [gb _ (by omega), show r.length + (c.length - (j + 1)) - 1 - r.length + (j + 1) = c.length - 1 by omega]
      exact hl
    · rw [show r.length + (c.length - (j + 1)) - 1 = r.length - 1 by omega, ga _ (by omega), ← getLast_at hr.ne, he, show j = c.length - 1 by omega]
      exact hl
theorem cut_len {c r : List α} (hc : Shortest E first d c) {j : Nat} (hj : j < c.length) (hr : RowF E first d r) (he : r.getLastD d = c.getD j d) : j + 1 ≤ r.length := by
  have h := hc.m _ (ring_cut hc.g hj hr he)
  rw [List.length_append, List.length_drop] at h
  omega
/-- the places of a shortest ring lie in the layers -/
theorem lay_ring {t : Nat} {layer met later layer' : List α} {c : List α} (h : LayI E first d t layer met) (hl : ∀ x, x ∈ later ↔ ∃ y ∈ layer, (y, x) ∈ E) (h3 : ∀ x ∈ later, x ∉ met → x ∈ layer') (hc : Shortest E first d c) (ht : t + 1 < c.length) (hi : c.getD t d ∈ layer) : c.getD (t + 1) d ∈ layer' := by
  refine h3 _ ((hl _).mpr ⟨_, hi, hc.g.f.l t ht⟩) fun hm => ?_
  obtain ⟨r, h1, h2, h3, _⟩ := h.m _ hm
  have := cut_len hc ht h1 h2
  omega
theorem lay_none {t : Nat} {layer met later : List α} (h : LayI E first d t layer met) (hl : ∀ x, x ∈ later ↔ ∃ y ∈ layer, (y, x) ∈ E) (hx : first ∈ later) : ∃ c, Ring E first d c ∧ c.length = t + 1 := by
  obtain ⟨y, hy, he⟩ := (hl first).mp hx
  obtain ⟨r, h1, h2, h3⟩ := h.s y hy
  exact ⟨r, ⟨h1, by rw [h2]; exact he⟩, h3⟩
theorem lay_hit {t : Nat} {layer met later : List α} {c : List α} (hl : ∀ x, x ∈ later ↔ ∃ y ∈ layer, (y, x) ∈ E) (hc : Shortest E first d c) (ht : t + 1 = c.length) (hi : c.getD t d ∈ layer) : first ∈ later := by
  refine (hl first).mpr ⟨_, hi, ?_⟩
  have := hc.g.c
  rw [getLast_at hc.g.f.ne, show c.length - 1 = t by omega] at this
  exact this
end
section
variable {α : Type} {enc : α → D} {E E1 E2 : List Ms} {a b : M Rs} {ka kb : Kd} {xs : List α}
/-- the item ahead, round the first -/
def ixP (xs : List α) (k : Nat) (df : α) : α := if k = 0 then xs.getLastD df else xs.getD (k - 1) df
theorem ev_ixTP (df : α) {k : Nat} (ha : Ev E a ka (.tuple (xs.map enc)) E1) (hb : Ev E1 b kb (.int (((k : Nat) : Int) - ((1 : Nat) : Int))) E2) (h : k < xs.length) (hr : Rdk ka (.tuple (xs.map enc)) E2 := by repeat (first | exact True.intro | exact rfl | apply And.intro)) : Ev E (dOp2 gIx a b) .val (enc (ixP xs k df)) E2 := by
  unfold ixP
  by_cases c : k = 0
  · rw [if_pos c]
    exact ev_ixTZ df ha (hb.eq (by subst c; rfl)) (by intro e; rw [e] at h; simp at h) hr
  · rw [if_neg c]
    exact ev_ixTN df ha (hb.eq (by rw [show ((k : Nat) : Int) - ((1 : Nat) : Int) = ((k - 1 : Nat) : Int) by omega])) (by omega) hr
end
section
variable {α : Type} [DecidableEq α] {E : List (α × α)} {first d : α}
theorem RowF.pre {c : List α} (h : RowF E first d c) {k : Nat} (hk : 0 < k) (hl : k ≤ c.length) : RowF E first d (c.take k) := by
  have g : ∀ i, i < k → (c.take k).getD i d = c.getD i d := fun i hi => by
    rw [List.getD_eq_getElem?_getD, List.getD_eq_getElem?_getD, List.getElem?_take, if_pos hi]
  refine ⟨?_, fun i hi => ?_⟩
  · have := h.h
    cases c with
    | nil => cases this
    | cons x c =>
      cases k with
      | zero => omega
      | succ k => exact this
  · rw [List.length_take] at hi
    rw [g i (by omega), g (i + 1) (by omega)]
    exact h.l i (by omega)
theorem short_nodup {c : List α} (h : Shortest E first d c) : c.Nodup := by
  refine List.pairwise_iff_getElem.mpr fun i j hi hj hij e => ?_
  have hp := h.g.f.pre (k := i + 1) (by omega) (by omega)
  have he : (c.take (i + 1)).getLastD d = c.getD j d := by
    have hne : c.take (i + 1) ≠ [] := hp.ne
    rw [getLast_at hne, List.length_take, Nat.min_eq_left (by omega)]
    rw [List.getD_eq_getElem?_getD, List.getElem?_take, if_pos (by omega), List.getD_eq_getElem?_getD, List.getElem?_eq_getElem hj, Nat.add_sub_cancel, List.getElem?_eq_getElem hi, e]
  have := cut_len h hj hp he
  rw [List.length_take] at this
  omega
theorem short_len {c G : List α} (h : Shortest E first d c) (hG : ∀ e ∈ E, e.2 ∈ G) : c.length ≤ G.length + 1 := by
  have hn := short_nodup h
  have h2 := nodup_sub_len (xs := c.drop 1) (ys := G) (hn.sublist (List.drop_sublist 1 c)) fun x hx => by
    obtain ⟨k, hk, e⟩ := List.getElem_of_mem hx
    rw [List.length_drop] at hk
    have := h.g.f.l k (by omega)
    have e2 : c.getD (k + 1) d = x := by
      rw [List.getElem_drop] at e
      rw [List.getD_eq_getElem?_getD, List.getElem?_eq_getElem (by omega)]
      show c[k + 1] = x
      rw [← e]; congr 1; omega
    rw [e2] at this
    exact hG _ this
  rw [List.length_drop] at h2
  omega
end
end TL
set_option maxHeartbeats 3200000
namespace Lawk21
open PySem PySem.Spec PyProof.Rows L2 DL
def topS (i : Nat) : Stmt := PySem.Challenge.pw_amendwarrant_k21_references_of_bodies.main.body.getD i (.Pass ⟨0, 0, 0, 0⟩)
section
variable {P : Program} {w : World} {K : PySem.W.Frag} {mg : Str → Option Value} {base : Heap}
/-! ### _law_next -/
abbrev s__law_next : Stmt := topS 21
theorem sc__law_next : FnScope ["w", "many"] ["w", "many"] (defScope s__law_next) := ⟨rfl, rfl, rfl, by decide +kernel, rfl, by decide +kernel, by decide +kernel⟩
def b__law_next : DS :=
 (dSeq (dAugS gIAdd 0 (dC (.str "at")) (dC (.int 1)))
 (dSeq (dIf (dOp2T gGt (dOp2 gIx (dVar 0) (dC (.str "at"))) (dB gLen (dCons (dOp2 gIx (dVar 0) (dC (.str "draws"))) dNil)))
 ((dRet (dC (.int 0))))
 (dPass))
 (dRet (dOp2 gMod (dB gInt (dCons (dOp2 gIx (dOp2 gIx (dVar 0) (dC (.str "draws"))) (dOp2 gSub (dOp2 gIx (dVar 0) (dC (.str "at"))) (dC (.int 1)))) dNil)) (dVar 1)))))
def f__law_next : M Rs := runDef [true, true] 2 b__law_next
theorem ok__law_next {f : Addr} {fd : FuncData} (F : Fun K "_law_next" "_law_next" s__law_next f fd) (m_len : mg "len" = none) (m_int : mg "int" = none) : FnOk P w K mg base CX0 1 f fd ["w", "many"] (spD ⟨K, w⟩ 2 f__law_next) := by
  have nd := sc__law_next.nd
  have h := fun_ok (P := P) (w := w) (K := ⟨K, w⟩) (mg := mg) (base := base) (N := ["w", "many"]) (ps := ["w", "many"]) (ms := [true, true]) (body := b__law_next) (k := 0) F sc__law_next rfl (fun cdv A outer s H E hr =>
  (sc (saugs (u1 hr) pAdd (pv 0) cs ci)
 (sc (sif (tcmp (oGt (u64 hr)) (eix (u9 hr) (pv' 0) cs) (eB cLen (by rfl) m_len (by rfl) (ac (eix (u9 hr) (pv' 0) cs) an)))
 (s1 (sret ci))
 sn)
 (s1 (sret (e2 oMod (eTy cInt (by rfl) m_int (by rfl) (ac (eix (u9 hr) (eix (u9 hr) (pv' 0) cs) (e2 oSub (eix (u9 hr) (pv' 0) cs) ci)) an)) (pv' 1)))))))
  exact h
/-! ### _law_pick -/
abbrev s__law_pick : Stmt := topS 22
theorem sc__law_pick : FnScope ["w", "rows"] ["w", "rows"] (defScope s__law_pick) := ⟨rfl, rfl, rfl, by decide +kernel, rfl, by decide +kernel, by decide +kernel⟩
def b__law_pick : DS :=
 (dRet (dOp2 gIx (dVar 1) (dCall [true, true] f__law_next (dCons (dVar 0) (dCons (dB gLen (dCons (dVar 1) dNil)) dNil)))))
def f__law_pick : M Rs := runDef [true, true] 2 b__law_pick
theorem ok__law_pick {f : Addr} {fd : FuncData} (F : Fun K "_law_pick" "_law_pick" s__law_pick f fd) {f_a__law_next : Addr} {d__law_next : FuncData} (G__law_next : FnOk P w K mg base CX0 1 f_a__law_next d__law_next ["w", "many"] (spD ⟨K, w⟩ 2 f__law_next)) (g__law_next : mg "_law_next" = some (.ref f_a__law_next)) (k__law_next : PySem.W.keepIn K (.ref f_a__law_next) = true) (i__law_next : Binds K d__law_next ["w", "many"] []) (m_len : mg "len" = none) : FnOk P w K mg base CX0 2 f fd ["w", "rows"] (spD ⟨K, w⟩ 2 f__law_pick) := by
  have nd := sc__law_pick.nd
  have h := fun_ok (P := P) (w := w) (K := ⟨K, w⟩) (mg := mg) (base := base) (N := ["w", "rows"]) (ps := ["w", "rows"]) (ms := [true, true]) (body := b__law_pick) (k := 1) F sc__law_pick rfl (fun cdv A outer s H E hr =>
  (s1 (sret (eix (u9 hr) (pv' 1) (ecall G__law_next (hr.mono (by omega)) (by rfl) g__law_next k__law_next i__law_next rfl (ac (pv' 0) (ac (eB cLen (by rfl) m_len (by rfl) (ac (pv' 1) an)) an)))))))
  exact h
/-! ### _law_body -/
abbrev s__law_body : Stmt := topS 25
theorem sc__law_body : FnScope ["w", "deep", "words", "found", "label", "own", "k"] ["w", "deep", "words"] (defScope s__law_body) := ⟨rfl, rfl, rfl, by decide +kernel, rfl, by decide +kernel, by decide +kernel⟩
def b__law_body (self : M Rs) : DS :=
 (dSeq (dSet 3 (dLst dNil))
 (dSeq (dFor (dWk (dLst (dCons (dC (.str "1")) (dCons (dC (.str "2")) (dCons (dC (.str "2a")) (dCons (dC (.str "3")) dNil)))))) (gN 4)
 ((dIf (dOr (dOp2T gGt (dCall [true, true] f__law_next (dCons (dVar 0) (dCons (dC (.int 5)) dNil))) (dC (.int 1))) (dAnd (dOp2T gGt (dVar 1) (dC (.int 1))) (dOp2T gEq (dVar 4) (dC (.str "1")))))
 ((dSeq (dSet 5 (dB gTuple (dCons (dLc [6] (dRng1 (dCons (dCall [true, true] f__law_next (dCons (dVar 0) (dCons (dC (.int 4)) dNil))) dNil)) (gN 6) dYes (dCall [true, true] f__law_pick (dCons (dVar 0) (dCons (dVar 2) dNil)))) dNil)))
 (dDrop (dMut 3 isLst true gAppend (dCons (dTup (dCons (dVar 4) (dCons (dVar 5) (dCons (dIfE (dAnd (dOp2T gGt (dVar 1) (dC (.int 0))) (dOp2T gEq (dCall [true, true] f__law_next (dCons (dVar 0) (dCons (dC (.int 2)) dNil))) (dC (.int 0)))) (dCall [true, true, true] self (dCons (dVar 0) (dCons (dOp2 gSub (dVar 1) (dC (.int 1))) (dCons (dVar 2) dNil)))) (dTup dNil)) dNil)))) dNil)))))
 (dPass))))
 (dRet (dB gTuple (dCons (dVar 3) dNil)))))
def f__law_body : Nat → M Rs
  | 0 => fun _ => .bad
  | d + 1 => runDef [true, true, true] 7 (b__law_body (f__law_body d))
theorem ok__law_body {f : Addr} {fd : FuncData} (F : Fun K "_law_body" "_law_body" s__law_body f fd) (g__law_body : mg "_law_body" = some (.ref f)) (i__law_body : Binds K fd ["w", "deep", "words"] []) {f_a__law_next : Addr} {d__law_next : FuncData} (G__law_next : FnOk P w K mg base CX0 1 f_a__law_next d__law_next ["w", "many"] (spD ⟨K, w⟩ 2 f__law_next)) (g__law_next : mg "_law_next" = some (.ref f_a__law_next)) (k__law_next : PySem.W.keepIn K (.ref f_a__law_next) = true) (i__law_next : Binds K d__law_next ["w", "many"] []) {f_a__law_pick : Addr} {d__law_pick : FuncData} (G__law_pick : FnOk P w K mg base CX0 2 f_a__law_pick d__law_pick ["w", "rows"] (spD ⟨K, w⟩ 2 f__law_pick)) (g__law_pick : mg "_law_pick" = some (.ref f_a__law_pick)) (k__law_pick : PySem.W.keepIn K (.ref f_a__law_pick) = true) (i__law_pick : Binds K d__law_pick ["w", "rows"] []) (m_tuple : mg "tuple" = none) (m_range : mg "range" = none) : ∀ d, FnOk P w K mg base CX0 (2 + d) f fd ["w", "deep", "words"] (spD ⟨K, w⟩ 3 (f__law_body d))
  | 0 => fnok_bad
  | d + 1 => by
    have nd := sc__law_body.nd
    have G__law_body := ok__law_body F g__law_body i__law_body G__law_next g__law_next k__law_next i__law_next G__law_pick g__law_pick k__law_pick i__law_pick m_tuple m_range d
    have k__law_body := F.kp
    have h := fun_ok (P := P) (w := w) (K := ⟨K, w⟩) (mg := mg) (base := base) (N := ["w", "deep", "words", "found", "label", "own", "k"]) (ps := ["w", "deep", "words"]) (ms := [true, true, true]) (body := b__law_body (f__law_body d)) (k := 2 + d) F sc__law_body rfl (fun cdv A outer s H E hr =>
  (sc (sset (by decide) nd rfl (by first | exact .inl rfl | exact .inr rfl) (el an))
 (sc (sfor PassesOwn.never rfl (iw (el (ac cs (ac cs (ac cs (ac cs an)))))) (gn (by decide) nd rfl (by first | exact .inl rfl | exact .inr rfl))
 (s1 (sif (twp (wor (tcmp (oGt (u64 hr)) (ecall G__law_next (hr.mono (by omega)) (by rfl) g__law_next k__law_next i__law_next rfl (ac (pv' 0) (ac ci an))) ci) (wor1 (twp (wand (tcmp (oGt (u64 hr)) (pv' 1) ci) (wand1 (tcmp (oEq (u64 hr)) (pv' 4) cs)))))))
 (sc (sset (by decide) nd rfl (by first | exact .inl rfl | exact .inr rfl) (eTy cTuple (by rfl) m_tuple (by rfl) (ac (lc (own := [("k", 6)]) rfl nd (ir1 (by rfl) m_range (ac (ecall G__law_next (hr.mono (by omega)) (by rfl) g__law_next k__law_next i__law_next rfl (ac (pv' 0) (ac ci an))) an)) (blkOk_by (by rfl)) (fun _ _ _ _ _ => (gn (by decide) nd rfl (by first | exact .inl rfl | exact .inr rfl))) (fun _ _ _ _ _ => tn) (fun _ _ _ _ _ => (ecall G__law_pick (hr.mono (by omega)) (by rfl) g__law_pick k__law_pick i__law_pick rfl (ac (pv' 0) (ac (pv' 2) an))))) an)))
 (s1 (sex (emut PySem.F.plainAttrs_list PySem.F.slot_list_append PySem.F.type_list_append mt_append ty_lst m_append (pv 3) (ac (et (ac (pv' 4) (ac (pv' 5) (ac (eife (twp (wand (tcmp (oGt (u64 hr)) (pv' 1) ci) (wand1 (tcmp (oEq (u64 hr)) (ecall G__law_next (hr.mono (by omega)) (by rfl) g__law_next k__law_next i__law_next rfl (ac (pv' 0) (ac ci an))) ci)))) (ecall G__law_body (hr.mono (by omega)) (by rfl) g__law_body k__law_body i__law_body rfl (ac (pv' 0) (ac (e2 oSub (pv' 1) ci) (ac (pv' 2) an)))) (et an)) an)))) an)))))
 sn)))
 (s1 (sret (eTy cTuple (by rfl) m_tuple (by rfl) (ac (pv' 3) an)))))))
    exact h
/-! ### parts_of -/
abbrev s_parts_of : Stmt := topS 3
theorem sc_parts_of : FnScope ["text", "size"] ["text"] (defScope s_parts_of) := ⟨rfl, rfl, rfl, by decide +kernel, rfl, by decide +kernel, by decide +kernel⟩
def b_parts_of : DS :=
 (dSeq (dSet 1 (dC (.int 0)))
 (dSeq (dWhile 1000000 (dAnd (dOp2T gLt (dVar 1) (dB gLen (dCons (dVar 0) dNil))) (dOp2T gIn (dOp2 gIx (dVar 0) (dVar 1)) (dC (.str "0123456789"))))
 ((dAug gIAdd 1 (dC (.int 1)))))
 (dRet (dTup (dCons (dSl (dVar 0) dNoP (dPart (dVar 1))) (dCons (dSl (dVar 0) (dPart (dVar 1)) dNoP) dNil))))))
def f_parts_of : M Rs := runDef [true] 2 b_parts_of
theorem ok_parts_of {f : Addr} {fd : FuncData} (F : Fun K "parts_of" "parts_of" s_parts_of f fd) (m_len : mg "len" = none) (q_DIGITS : ∃ u, mg "DIGITS" = some u ∧ RelV (.str "0123456789") u) : FnOk P w K mg base CX0 1 f fd ["text"] (spD ⟨K, w⟩ 1 f_parts_of) := by
  have nd := sc_parts_of.nd
  have h := fun_ok (P := P) (w := w) (K := ⟨K, w⟩) (mg := mg) (base := base) (N := ["text", "size"]) (ps := ["text"]) (ms := [true]) (body := b_parts_of) (k := 0) F sc_parts_of rfl (fun cdv A outer s H E hr =>
  (sc (sset (by decide) nd rfl (by first | exact .inl rfl | exact .inr rfl) ci)
 (sc (swhile PassesOwn.never (twp (wand (tcmp (oLt (u64 hr)) (pv' 1) (eB cLen (by rfl) m_len (by rfl) (ac (pv' 0) an))) (wand1 (tcmp (oIn (u65 hr)) (eix (u9 hr) (pv' 0) (pv' 1)) (cgs (by rfl) q_DIGITS)))))
 (s1 (saug (by decide) pAdd nd rfl (by first | exact .inl rfl | exact .inr rfl) ci)))
 (s1 (sret (et (ac (esl (pv' 0) pn (pp (pv' 1))) (ac (esl (pv' 0) (pp (pv' 1)) pn) an))))))))
  exact h
/-! ### is_label -/
abbrev s_is_label : Stmt := topS 4
theorem sc_is_label : FnScope ["thing", "digits", "letters", "sign"] ["thing"] (defScope s_is_label) := ⟨rfl, rfl, rfl, by decide +kernel, rfl, by decide +kernel, by decide +kernel⟩
def b_is_label : DS :=
 (dSeq (dIf (dNot (dTru (dIsi .str (dVar 0))))
 ((dRet (dC (.bool false))))
 (dPass))
 (dSeq (dAsg (gT 2 (gsC (gN 1) (gsC (gN 2) gsN))) (dCall [true] f_parts_of (dCons (dVar 0) dNil)))
 (dSeq (dIf (dOr (dOp2T gEq (dVar 1) (dC (.str ""))) (dOr (dOp2T gEq (dOp2 gIx (dVar 1) (dC (.int 0))) (dC (.str "0"))) (dOp2T gGt (dB gLen (dCons (dVar 1) dNil)) (dC (.int 9)))))
 ((dRet (dC (.bool false))))
 (dPass))
 (dRet (dOp2 (gB gEq) (dLc [3] (dWk (dVar 2)) (gN 3) (dOp2T gNotIn (dVar 3) (dC (.str "abcdefghijklmnopqrstuvwxyz"))) (dVar 3)) (dLst dNil))))))
def f_is_label : M Rs := runDef [true] 4 b_is_label
theorem ok_is_label {f : Addr} {fd : FuncData} (F : Fun K "is_label" "is_label" s_is_label f fd) {f_a_parts_of : Addr} {d_parts_of : FuncData} (G_parts_of : FnOk P w K mg base CX0 1 f_a_parts_of d_parts_of ["text"] (spD ⟨K, w⟩ 1 f_parts_of)) (g_parts_of : mg "parts_of" = some (.ref f_a_parts_of)) (k_parts_of : PySem.W.keepIn K (.ref f_a_parts_of) = true) (i_parts_of : Binds K d_parts_of ["text"] []) (m_isinstance : mg "isinstance" = none) (m_str : mg "str" = none) (m_len : mg "len" = none) (q_LETTERS : ∃ u, mg "LETTERS" = some u ∧ RelV (.str "abcdefghijklmnopqrstuvwxyz") u) : FnOk P w K mg base CX0 2 f fd ["thing"] (spD ⟨K, w⟩ 1 f_is_label) := by
  have nd := sc_is_label.nd
  have h := fun_ok (P := P) (w := w) (K := ⟨K, w⟩) (mg := mg) (base := base) (N := ["thing", "digits", "letters", "sign"]) (ps := ["thing"]) (ms := [true]) (body := b_is_label) (k := 1) F sc_is_label rfl (fun cdv A outer s H E hr =>
  (sc (sif (tnot (ttr (eisi .str (by rfl) m_isinstance (by rfl) m_str (by rfl) (pv' 0))))
 (s1 (sret cb))
 sn)
 (sc (sasg (ecall G_parts_of (hr.mono (by omega)) (by rfl) g_parts_of k_parts_of i_parts_of rfl (ac (pv' 0) an)) (gt rfl (gsc (gn (by decide) nd rfl (by first | exact .inl rfl | exact .inr rfl)) (gsc (gn (by decide) nd rfl (by first | exact .inl rfl | exact .inr rfl)) gsn))))
 (sc (sif (twp (wor (tcmp (oEq (u64 hr)) (pv' 1) cs) (wor (tcmp (oEq (u64 hr)) (eix (u9 hr) (pv' 1) ci) cs) (wor1 (tcmp (oGt (u64 hr)) (eB cLen (by rfl) m_len (by rfl) (ac (pv' 1) an)) ci)))))
 (s1 (sret cb))
 sn)
 (s1 (sret (ecmp (oEq (u64 hr)) (lc (own := [("sign", 3)]) rfl nd (iw (pv' 2)) (blkOk_by (by rfl)) (fun _ _ _ _ _ => (gn (by decide) nd rfl (by first | exact .inl rfl | exact .inr rfl))) (fun _ _ _ _ _ => (t1 (tcmp (oNotIn (u65 hr)) (pv' 3) (cgs (by rfl) q_LETTERS)))) (fun _ _ _ _ _ => (pv' 3))) (el an))))))))
  exact h
/-! ### parse_path -/
abbrev s_parse_path : Stmt := topS 9
theorem sc_parse_path : FnScope ["text", "path", "label"] ["text"] (defScope s_parse_path) := ⟨rfl, rfl, rfl, by decide +kernel, rfl, by decide +kernel, by decide +kernel⟩
def b_parse_path : DS :=
 (dSeq (dSet 1 (dB gTuple (dCons (dMe isStr gSplit (dVar 0) (dCons (dC (.str ".")) dNil)) dNil)))
 (dRet (dIfE (dTru (dB gAll (dCons (dLc [2] (dWk (dVar 1)) (gN 2) dYes (dCall [true] f_is_label (dCons (dVar 2) dNil))) dNil))) (dVar 1) (dC .none))))
def f_parse_path : M Rs := runDef [true] 3 b_parse_path
theorem ok_parse_path {f : Addr} {fd : FuncData} (F : Fun K "parse_path" "parse_path" s_parse_path f fd) {f_a_is_label : Addr} {d_is_label : FuncData} (G_is_label : FnOk P w K mg base CX0 2 f_a_is_label d_is_label ["thing"] (spD ⟨K, w⟩ 1 f_is_label)) (g_is_label : mg "is_label" = some (.ref f_a_is_label)) (k_is_label : PySem.W.keepIn K (.ref f_a_is_label) = true) (i_is_label : Binds K d_is_label ["thing"] []) (m_tuple : mg "tuple" = none) (m_all : mg "all" = none) : FnOk P w K mg base CX0 3 f fd ["text"] (spD ⟨K, w⟩ 1 f_parse_path) := by
  have nd := sc_parse_path.nd
  have h := fun_ok (P := P) (w := w) (K := ⟨K, w⟩) (mg := mg) (base := base) (N := ["text", "path", "label"]) (ps := ["text"]) (ms := [true]) (body := b_parse_path) (k := 2) F sc_parse_path rfl (fun cdv A outer s H E hr =>
  (sc (sset (by decide) nd rfl (by first | exact .inl rfl | exact .inr rfl) (eTy cTuple (by rfl) m_tuple (by rfl) (ac (eme PySem.F.plainAttrs_str PySem.F.slot_str_split PySem.F.type_str_split m_split vy_str (pv' 0) (ac cs an)) an)))
 (s1 (sret (eife (ttr (eB (cAll rfl) (by rfl) m_all (by rfl) (ac (lc (own := [("label", 2)]) rfl nd (iw (pv' 1)) (blkOk_by (by rfl)) (fun _ _ _ _ _ => (gn (by decide) nd rfl (by first | exact .inl rfl | exact .inr rfl))) (fun _ _ _ _ _ => tn) (fun _ _ _ _ _ => (ecall G_is_label (hr.mono (by omega)) (by rfl) g_is_label k_is_label i_is_label rfl (ac (pv' 2) an)))) an))) (pv' 1) cn)))))
  exact h
/-! ### ref_of -/
abbrev s_ref_of : Stmt := topS 13
theorem sc_ref_of : FnScope ["word"] ["word"] (defScope s_ref_of) := ⟨rfl, rfl, rfl, by decide +kernel, rfl, by decide +kernel, by decide +kernel⟩
def b_ref_of : DS :=
 (dRet (dIfE (dOp2T gEq (dSl (dVar 0) dNoP (dPart (dC (.int 1)))) (dC (.str "@"))) (dCall [true] f_parse_path (dCons (dSl (dVar 0) (dPart (dC (.int 1))) dNoP) dNil)) (dC .none)))
def f_ref_of : M Rs := runDef [true] 1 b_ref_of
theorem ok_ref_of {f : Addr} {fd : FuncData} (F : Fun K "ref_of" "ref_of" s_ref_of f fd) {f_a_parse_path : Addr} {d_parse_path : FuncData} (G_parse_path : FnOk P w K mg base CX0 3 f_a_parse_path d_parse_path ["text"] (spD ⟨K, w⟩ 1 f_parse_path)) (g_parse_path : mg "parse_path" = some (.ref f_a_parse_path)) (k_parse_path : PySem.W.keepIn K (.ref f_a_parse_path) = true) (i_parse_path : Binds K d_parse_path ["text"] []) : FnOk P w K mg base CX0 4 f fd ["word"] (spD ⟨K, w⟩ 1 f_ref_of) := by
  have nd := sc_ref_of.nd
  have h := fun_ok (P := P) (w := w) (K := ⟨K, w⟩) (mg := mg) (base := base) (N := ["word"]) (ps := ["word"]) (ms := [true]) (body := b_ref_of) (k := 3) F sc_ref_of rfl (fun cdv A outer s H E hr =>
  (s1 (sret (eife (tcmp (oEq (u64 hr)) (esl (pv' 0) pn (pp ci)) cs) (ecall G_parse_path (hr.mono (by omega)) (by rfl) g_parse_path k_parse_path i_parse_path rfl (ac (esl (pv' 0) (pp ci) pn) an)) cn))))
  exact h
/-! ### all_paths -/
abbrev s_all_paths : Stmt := topS 7
theorem sc_all_paths : FnScope ["body", "found", "label", "_", "kids", "path"] ["body"] (defScope s_all_paths) := ⟨rfl, rfl, rfl, by decide +kernel, rfl, by decide +kernel, by decide +kernel⟩
def b_all_paths (self : M Rs) : DS :=
 (dSeq (dSet 1 (dLst dNil))
 (dSeq (dFor (dWk (dVar 0)) (gT 3 (gsC (gN 2) (gsC (gN 3) (gsC (gN 4) gsN))))
 ((dSeq (dDrop (dMut 1 isLst true gAppend (dCons (dTup (dCons (dVar 2) dNil)) dNil)))
 (dDrop (dMut 1 isLst false gExtend (dCons (dLc [5] (dWk (dCall [true] self (dCons (dVar 4) dNil))) (gN 5) dYes (dOp2 gAdd (dTup (dCons (dVar 2) dNil)) (dVar 5))) dNil))))))
 (dRet (dB gTuple (dCons (dVar 1) dNil)))))
def f_all_paths : Nat → M Rs
  | 0 => fun _ => .bad
  | d + 1 => runDef [true] 6 (b_all_paths (f_all_paths d))
theorem ok_all_paths {f : Addr} {fd : FuncData} (F : Fun K "all_paths" "all_paths" s_all_paths f fd) (g_all_paths : mg "all_paths" = some (.ref f)) (i_all_paths : Binds K fd ["body"] []) (m_tuple : mg "tuple" = none) : ∀ d, FnOk P w K mg base CX0 (0 + d) f fd ["body"] (spD ⟨K, w⟩ 1 (f_all_paths d))
  | 0 => fnok_bad
  | d + 1 => by
    have nd := sc_all_paths.nd
    have G_all_paths := ok_all_paths F g_all_paths i_all_paths m_tuple d
    have k_all_paths := F.kp
    have h := fun_ok (P := P) (w := w) (K := ⟨K, w⟩) (mg := mg) (base := base) (N := ["body", "found", "label", "_", "kids", "path"]) (ps := ["body"]) (ms := [true]) (body := b_all_paths (f_all_paths d)) (k := 0 + d) F sc_all_paths rfl (fun cdv A outer s H E hr =>
  (sc (sset (by decide) nd rfl (by first | exact .inl rfl | exact .inr rfl) (el an))
 (sc (sfor PassesOwn.never rfl (iw (pv' 0)) (gt rfl (gsc (gn (by decide) nd rfl (by first | exact .inl rfl | exact .inr rfl)) (gsc (gn (by decide) nd rfl (by first | exact .inl rfl | exact .inr rfl)) (gsc (gn (by decide) nd rfl (by first | exact .inl rfl | exact .inr rfl)) gsn))))
 (sc (sex (emut PySem.F.plainAttrs_list PySem.F.slot_list_append PySem.F.type_list_append mt_append ty_lst m_append (pv 1) (ac (et (ac (pv' 2) an)) an)))
 (s1 (sex (emut PySem.F.plainAttrs_list PySem.F.slot_list_extend PySem.F.type_list_extend mt_extR ty_lst m_extend (pv 1) (ac (lc (own := [("path", 5)]) rfl nd (iw (ecall G_all_paths (hr.mono (by omega)) (by rfl) g_all_paths k_all_paths i_all_paths rfl (ac (pv' 4) an))) (blkOk_by (by rfl)) (fun _ _ _ _ _ => (gn (by decide) nd rfl (by first | exact .inl rfl | exact .inr rfl))) (fun _ _ _ _ _ => tn) (fun _ _ _ _ _ => (e2 oAdd (et (ac (pv' 2) an)) (pv' 5)))) an))))))
 (s1 (sret (eTy cTuple (by rfl) m_tuple (by rfl) (ac (pv' 1) an)))))))
    exact h
/-! ### node_at -/
abbrev s_node_at : Stmt := topS 6
theorem sc_node_at : FnScope ["body", "path", "found", "label", "able", "node"] ["body", "path"] (defScope s_node_at) := ⟨rfl, rfl, rfl, by decide +kernel, rfl, by decide +kernel, by decide +kernel⟩
def b_node_at : DS :=
 (dSeq (dSet 2 (dC .none))
 (dSeq (dFor (dWk (dVar 1)) (gN 3)
 ((dSeq (dSet 4 (dLc [5] (dWk (dVar 0)) (gN 5) (dOp2T gEqX (dOp2 gIx (dVar 5) (dC (.int 0))) (dVar 3)) (dVar 5)))
 (dSeq (dIf (dOp2T gEqX (dVar 4) (dLst dNil))
 ((dRet (dC .none)))
 (dPass))
 (dSeq (dSet 2 (dOp2 gIx (dVar 4) (dC (.int 0))))
 (dSet 0 (dOp2 gIx (dVar 2) (dC (.int 2)))))))))
 (dRet (dVar 2))))
def f_node_at : M Rs := runDef [false, true] 6 b_node_at
theorem ok_node_at {f : Addr} {fd : FuncData} (F : Fun K "node_at" "node_at" s_node_at f fd)  : FnOk P w K mg base CX0 1 f fd ["body", "path"] (spD ⟨K, w⟩ 2 f_node_at) := by
  have nd := sc_node_at.nd
  have h := fun_ok (P := P) (w := w) (K := ⟨K, w⟩) (mg := mg) (base := base) (N := ["body", "path", "found", "label", "able", "node"]) (ps := ["body", "path"]) (ms := [false, true]) (body := b_node_at) (k := 0) F sc_node_at rfl (fun cdv A outer s H E hr =>
  (sc (sset (by decide) nd rfl (by first | exact .inl rfl | exact .inr rfl) cn)
 (sc (sfor PassesOwn.never rfl (iw (pv' 1)) (gn (by decide) nd rfl (by first | exact .inl rfl | exact .inr rfl))
 (sc (slc (own := [("node", 5)]) (by decide) rfl nd rfl rfl (sw_true rfl rfl rfl rfl) (iw (pv' 0)) (blkOk_by (by rfl)) (fun _ _ _ _ _ => (gn (by decide) nd rfl (by first | exact .inl rfl | exact .inr rfl))) (fun _ _ _ _ _ => (t1 (tcmp (oEqX (u65 hr)) (eix (u9 hr) (pv' 5) ci) (pv' 3)))) (fun _ _ _ _ _ => (pv' 5)))
 (sc (sif (tcmp (oEqX (u65 hr)) (pv' 4) (el an))
 (s1 (sret cn))
 sn)
 (sc (sset (by decide) nd rfl (by first | exact .inl rfl | exact .inr rfl) (eix (u9 hr) (pv' 4) ci))
 (s1 (sset (by decide) nd rfl (by first | exact .inl rfl | exact .inr rfl) (eix (u9 hr) (pv' 2) ci)))))))
 (s1 (sret (pv' 2))))))
  exact h
/-! ### refs_of -/
abbrev s_refs_of : Stmt := topS 14
theorem sc_refs_of : FnScope ["body", "found", "path", "words", "place", "goal"] ["body"] (defScope s_refs_of) := ⟨rfl, rfl, rfl, by decide +kernel, rfl, by decide +kernel, by decide +kernel⟩
def b_refs_of : DS :=
 (dSeq (dSet 1 (dLst dNil))
 (dSeq (dFor (dWk (dCall [true] (f_all_paths 5) (dCons (dVar 0) dNil))) (gN 2)
 ((dSeq (dSet 3 (dOp2 gIx (dCall [false, true] f_node_at (dCons (dVar 0) (dCons (dVar 2) dNil))) (dC (.int 1))))
 (dFor (dRng1 (dCons (dB gLen (dCons (dVar 3) dNil)) dNil)) (gN 4)
 ((dSeq (dSet 5 (dCall [true] f_ref_of (dCons (dOp2 gIx (dVar 3) (dVar 4)) dNil)))
 (dIf (dOp2T gIsNot (dVar 5) (dC .none))
 ((dDrop (dMut 1 isLst true gAppend (dCons (dTup (dCons (dVar 2) (dCons (dVar 4) (dCons (dVar 5) dNil)))) dNil))))
 (dPass))))))))
 (dRet (dB gTuple (dCons (dVar 1) dNil)))))
def f_refs_of : M Rs := runDef [true] 6 b_refs_of
theorem ok_refs_of {f : Addr} {fd : FuncData} (F : Fun K "refs_of" "refs_of" s_refs_of f fd) {f_a_all_paths : Addr} {d_all_paths : FuncData} (G_all_paths : FnOk P w K mg base CX0 5 f_a_all_paths d_all_paths ["body"] (spD ⟨K, w⟩ 1 (f_all_paths 5))) (g_all_paths : mg "all_paths" = some (.ref f_a_all_paths)) (k_all_paths : PySem.W.keepIn K (.ref f_a_all_paths) = true) (i_all_paths : Binds K d_all_paths ["body"] []) {f_a_node_at : Addr} {d_node_at : FuncData} (G_node_at : FnOk P w K mg base CX0 1 f_a_node_at d_node_at ["body", "path"] (spD ⟨K, w⟩ 2 f_node_at)) (g_node_at : mg "node_at" = some (.ref f_a_node_at)) (k_node_at : PySem.W.keepIn K (.ref f_a_node_at) = true) (i_node_at : Binds K d_node_at ["body", "path"] []) {f_a_ref_of : Addr} {d_ref_of : FuncData} (G_ref_of : FnOk P w K mg base CX0 4 f_a_ref_of d_ref_of ["word"] (spD ⟨K, w⟩ 1 f_ref_of)) (g_ref_of : mg "ref_of" = some (.ref f_a_ref_of)) (k_ref_of : PySem.W.keepIn K (.ref f_a_ref_of) = true) (i_ref_of : Binds K d_ref_of ["word"] []) (m_range : mg "range" = none) (m_len : mg "len" = none) (m_tuple : mg "tuple" = none) : FnOk P w K mg base CX0 6 f fd ["body"] (spD ⟨K, w⟩ 1 f_refs_of) := by
  have nd := sc_refs_of.nd
  have h := fun_ok (P := P) (w := w) (K := ⟨K, w⟩) (mg := mg) (base := base) (N := ["body", "found", "path", "words", "place", "goal"]) (ps := ["body"]) (ms := [true]) (body := b_refs_of) (k := 5) F sc_refs_of rfl (fun cdv A outer s H E hr =>
  (sc (sset (by decide) nd rfl (by first | exact .inl rfl | exact .inr rfl) (el an))
 (sc (sfor PassesOwn.never rfl (iw (ecall G_all_paths (hr.mono (by omega)) (by rfl) g_all_paths k_all_paths i_all_paths rfl (ac (pv' 0) an))) (gn (by decide) nd rfl (by first | exact .inl rfl | exact .inr rfl))
 (sc (sset (by decide) nd rfl (by first | exact .inl rfl | exact .inr rfl) (eix (u9 hr) (ecall G_node_at (hr.mono (by omega)) (by rfl) g_node_at k_node_at i_node_at rfl (ac (pv' 0) (ac (pv' 2) an))) ci))
 (s1 (sfor PassesOwn.never rfl (ir1 (by rfl) m_range (ac (eB cLen (by rfl) m_len (by rfl) (ac (pv' 3) an)) an)) (gn (by decide) nd rfl (by first | exact .inl rfl | exact .inr rfl))
 (sc (sset (by decide) nd rfl (by first | exact .inl rfl | exact .inr rfl) (ecall G_ref_of (hr.mono (by omega)) (by rfl) g_ref_of k_ref_of i_ref_of rfl (ac (eix (u9 hr) (pv' 3) (pv' 4)) an)))
 (s1 (sif (tcmp oIsNot (pv' 5) cn)
 (s1 (sex (emut PySem.F.plainAttrs_list PySem.F.slot_list_append PySem.F.type_list_append mt_append ty_lst m_append (pv 1) (ac (et (ac (pv' 2) (ac (pv' 4) (ac (pv' 5) an)))) an))))
 sn)))))))
 (s1 (sret (eTy cTuple (by rfl) m_tuple (by rfl) (ac (pv' 1) an)))))))
  exact h
/-! ### ring_from -/
abbrev s_ring_from : Stmt := topS 17
theorem sc_ring_from : FnScope ["refs", "first", "rows", "met", "at", "path", "_", "goal"] ["refs", "first"] (defScope s_ring_from) := ⟨rfl, rfl, rfl, by decide +kernel, rfl, by decide +kernel, by decide +kernel⟩
def b_ring_from : DS :=
 (dSeq (dSet 2 (dLst (dCons (dTup (dCons (dVar 1) dNil)) dNil)))
 (dSeq (dSet 3 dNewT)
 (dSeq (dSet 4 (dC (.int 0)))
 (dSeq (dWhile 1000000 (dOp2T gLt (dVar 4) (dB gLen (dCons (dVar 2) dNil)))
 ((dSeq (dFor (dWk (dVar 0)) (gT 3 (gsC (gN 5) (gsC (gN 6) (gsC (gN 7) gsN))))
 ((dIf (dOp2T gEq (dVar 5) (dOp2 gIx (dOp2 gIx (dVar 2) (dVar 4)) (dOp1 gNeg (dC (.int 1)))))
 ((dSeq (dIf (dOp2T gEq (dVar 7) (dVar 1))
 ((dRet (dOp2 gIx (dVar 2) (dVar 4))))
 (dPass))
 (dIf (dOp2T gNotIn (dVar 7) (dVar 3))
 ((dSeq (dPutT 3 (dVar 7) (dC (.bool true)))
 (dDrop (dMut 2 isLst true gAppend (dCons (dOp2 gAdd (dOp2 gIx (dVar 2) (dVar 4)) (dTup (dCons (dVar 7) dNil))) dNil)))))
 (dPass))))
 (dPass))))
 (dAug gIAdd 4 (dC (.int 1))))))
 (dRet (dC .none))))))
def f_ring_from : M Rs := runDef [true, true] 8 b_ring_from
theorem ok_ring_from {f : Addr} {fd : FuncData} (F : Fun K "ring_from" "ring_from" s_ring_from f fd) (m_len : mg "len" = none) : FnOk P w K mg base CX0 1 f fd ["refs", "first"] (spD ⟨K, w⟩ 2 f_ring_from) := by
  have nd := sc_ring_from.nd
  have h := fun_ok (P := P) (w := w) (K := ⟨K, w⟩) (mg := mg) (base := base) (N := ["refs", "first", "rows", "met", "at", "path", "_", "goal"]) (ps := ["refs", "first"]) (ms := [true, true]) (body := b_ring_from) (k := 0) F sc_ring_from rfl (fun cdv A outer s H E hr =>
  (sc (sset (by decide) nd rfl (by first | exact .inl rfl | exact .inr rfl) (el (ac (et (ac (pv' 1) an)) an)))
 (sc (sset (by decide) nd rfl (by first | exact .inl rfl | exact .inr rfl) ednT)
 (sc (sset (by decide) nd rfl (by first | exact .inl rfl | exact .inr rfl) ci)
 (sc (swhile PassesOwn.never (tcmp (oLt (u64 hr)) (pv' 4) (eB cLen (by rfl) m_len (by rfl) (ac (pv' 2) an)))
 (sc (sfor PassesOwn.never rfl (iw (pv' 0)) (gt rfl (gsc (gn (by decide) nd rfl (by first | exact .inl rfl | exact .inr rfl)) (gsc (gn (by decide) nd rfl (by first | exact .inl rfl | exact .inr rfl)) (gsc (gn (by decide) nd rfl (by first | exact .inl rfl | exact .inr rfl)) gsn))))
 (s1 (sif (tcmp (oEq (u64 hr)) (pv' 5) (eix (u9 hr) (eix (u9 hr) (pv' 2) (pv' 4)) (e1 oNeg ci)))
 (sc (sif (tcmp (oEq (u64 hr)) (pv' 7) (pv' 1))
 (s1 (sret (eix (u9 hr) (pv' 2) (pv' 4))))
 sn)
 (s1 (sif (tcmp (oNotIn (u65 hr)) (pv' 7) (pv' 3))
 (sc (sputT (u9 hr) (pv 3) (pv' 7) cb)
 (s1 (sex (emut PySem.F.plainAttrs_list PySem.F.slot_list_append PySem.F.type_list_append mt_append ty_lst m_append (pv 2) (ac (e2 oAdd (eix (u9 hr) (pv' 2) (pv' 4)) (et (ac (pv' 7) an))) an)))))
 sn)))
 sn)))
 (s1 (saug (by decide) pAdd nd rfl (by first | exact .inl rfl | exact .inr rfl) ci))))
 (s1 (sret cn)))))))
  exact h
/-! ### ref_ring -/
abbrev s_ref_ring : Stmt := topS 18
theorem sc_ref_ring : FnScope ["body", "refs", "best", "path", "ring"] ["body"] (defScope s_ref_ring) := ⟨rfl, rfl, rfl, by decide +kernel, rfl, by decide +kernel, by decide +kernel⟩
def b_ref_ring : DS :=
 (dSeq (dSet 1 (dCall [true] f_refs_of (dCons (dVar 0) dNil)))
 (dSeq (dSet 2 (dC .none))
 (dSeq (dFor (dWk (dCall [true] (f_all_paths 5) (dCons (dVar 0) dNil))) (gN 3)
 ((dSeq (dSet 4 (dCall [true, true] f_ring_from (dCons (dVar 1) (dCons (dVar 3) dNil))))
 (dIf (dAnd (dOp2T gIsNot (dVar 4) (dC .none)) (dOr (dOp2T gIs (dVar 2) (dC .none)) (dOp2T gLt (dB gLen (dCons (dVar 4) dNil)) (dB gLen (dCons (dVar 2) dNil)))))
 ((dSet 2 (dVar 4)))
 (dPass)))))
 (dRet (dVar 2)))))
def f_ref_ring : M Rs := runDef [true] 5 b_ref_ring
theorem ok_ref_ring {f : Addr} {fd : FuncData} (F : Fun K "ref_ring" "ref_ring" s_ref_ring f fd) {f_a_refs_of : Addr} {d_refs_of : FuncData} (G_refs_of : FnOk P w K mg base CX0 6 f_a_refs_of d_refs_of ["body"] (spD ⟨K, w⟩ 1 f_refs_of)) (g_refs_of : mg "refs_of" = some (.ref f_a_refs_of)) (k_refs_of : PySem.W.keepIn K (.ref f_a_refs_of) = true) (i_refs_of : Binds K d_refs_of ["body"] []) {f_a_all_paths : Addr} {d_all_paths : FuncData} (G_all_paths : FnOk P w K mg base CX0 5 f_a_all_paths d_all_paths ["body"] (spD ⟨K, w⟩ 1 (f_all_paths 5))) (g_all_paths : mg "all_paths" = some (.ref f_a_all_paths)) (k_all_paths : PySem.W.keepIn K (.ref f_a_all_paths) = true) (i_all_paths : Binds K d_all_paths ["body"] []) {f_a_ring_from : Addr} {d_ring_from : FuncData} (G_ring_from : FnOk P w K mg base CX0 1 f_a_ring_from d_ring_from ["refs", "first"] (spD ⟨K, w⟩ 2 f_ring_from)) (g_ring_from : mg "ring_from" = some (.ref f_a_ring_from)) (k_ring_from : PySem.W.keepIn K (.ref f_a_ring_from) = true) (i_ring_from : Binds K d_ring_from ["refs", "first"] []) (m_len : mg "len" = none) : FnOk P w K mg base CX0 7 f fd ["body"] (spD ⟨K, w⟩ 1 f_ref_ring) := by
  have nd := sc_ref_ring.nd
  have h := fun_ok (P := P) (w := w) (K := ⟨K, w⟩) (mg := mg) (base := base) (N := ["body", "refs", "best", "path", "ring"]) (ps := ["body"]) (ms := [true]) (body := b_ref_ring) (k := 6) F sc_ref_ring rfl (fun cdv A outer s H E hr =>
  (sc (sset (by decide) nd rfl (by first | exact .inl rfl | exact .inr rfl) (ecall G_refs_of (hr.mono (by omega)) (by rfl) g_refs_of k_refs_of i_refs_of rfl (ac (pv' 0) an)))
 (sc (sset (by decide) nd rfl (by first | exact .inl rfl | exact .inr rfl) cn)
 (sc (sfor PassesOwn.never rfl (iw (ecall G_all_paths (hr.mono (by omega)) (by rfl) g_all_paths k_all_paths i_all_paths rfl (ac (pv' 0) an))) (gn (by decide) nd rfl (by first | exact .inl rfl | exact .inr rfl))
 (sc (sset (by decide) nd rfl (by first | exact .inl rfl | exact .inr rfl) (ecall G_ring_from (hr.mono (by omega)) (by rfl) g_ring_from k_ring_from i_ring_from rfl (ac (pv' 1) (ac (pv' 3) an))))
 (s1 (sif (twp (wand (tcmp oIsNot (pv' 4) cn) (wand1 (twp (wor (tcmp oIs (pv' 2) cn) (wor1 (tcmp (oLt (u64 hr)) (eB cLen (by rfl) m_len (by rfl) (ac (pv' 4) an)) (eB cLen (by rfl) m_len (by rfl) (ac (pv' 2) an)))))))))
 (s1 (sset (by decide) nd rfl (by first | exact .inl rfl | exact .inr rfl) (pv' 4)))
 sn))))
 (s1 (sret (pv' 2)))))))
  exact h
/-! ### _law_draws -/
abbrev s__law_draws : Stmt := topS 20
theorem sc__law_draws : FnScope ["script", "many", "draws", "mixed", "k", "cell", "rest", "turn"] ["script", "many"] (defScope s__law_draws) := ⟨rfl, rfl, rfl, by decide +kernel, rfl, by decide +kernel, by decide +kernel⟩
def b__law_draws : DS :=
 (dSeq (dSet 2 (dLst dNil))
 (dSeq (dSet 3 (dC (.int 7)))
 (dSeq (dFor (dRng1 (dCons (dB gLen (dCons (dVar 0) dNil)) dNil)) (gN 4)
 ((dSeq (dSet 5 (dB gAbs (dCons (dB gInt (dCons (dOp2 gIx (dVar 0) (dVar 4)) dNil)) dNil)))
 (dSeq (dSet 3 (dOp2 gMod (dB gInt (dCons (dOp2 gAdd (dOp2 gAdd (dOp2 gMul (dVar 3) (dC (.int 48271))) (dOp2 gMod (dVar 5) (dC (.int 1000003)))) (dVar 4)) dNil)) (dC (.int 65537))))
 (dSeq (dSet 6 (dC (.int 0)))
 (dSeq (dIf (dOp2T gGe (dVar 5) (dOp2 gPow (dC (.int 10)) (dC (.int 18))))
 ((dSet 6 (dVar 5)))
 ((dSeq (dDrop (dMut 2 isLst true gAppend (dCons (dOp2 gMod (dB gInt (dCons (dVar 5) dNil)) (dC (.int 997))) dNil)))
 (dDrop (dMut 2 isLst true gAppend (dCons (dOp2 gMod (dOp2 gMod (dB gInt (dCons (dOp2 gAdd (dOp2 gMul (dVar 3) (dC (.int 69621))) (dC (.int 5))) dNil)) (dC (.int 65521))) (dC (.int 997))) dNil))))))
 (dFor (dRng1 (dCons (dC (.int 60)) dNil)) (gN 7)
 ((dIf (dOp2T gGt (dVar 6) (dC (.int 0)))
 ((dSeq (dDrop (dMut 2 isLst true gAppend (dCons (dOp2 gMod (dB gInt (dCons (dVar 6) dNil)) (dC (.int 997))) dNil)))
 (dSet 6 (dOp2 gDiv (dVar 6) (dC (.int 997))))))
 (dPass))))))))))
 (dSeq (dFor (dRng1 (dCons (dVar 1) dNil)) (gN 4)
 ((dSeq (dSet 3 (dOp2 gMod (dB gInt (dCons (dOp2 gAdd (dOp2 gAdd (dOp2 gMul (dVar 3) (dC (.int 16807))) (dVar 4)) (dC (.int 1))) dNil)) (dC (.int 65537))))
 (dDrop (dMut 2 isLst true gAppend (dCons (dOp2 gMod (dB gInt (dCons (dVar 3) dNil)) (dC (.int 997))) dNil))))))
 (dRet (dSl (dVar 2) dNoP (dPart (dVar 1))))))))
def f__law_draws : M Rs := runDef [true, true] 8 b__law_draws
theorem ok__law_draws {f : Addr} {fd : FuncData} (F : Fun K "_law_draws" "_law_draws" s__law_draws f fd) (m_range : mg "range" = none) (m_len : mg "len" = none) (m_abs : mg "abs" = none) (m_int : mg "int" = none) : FnOk P w K mg base CX0 1 f fd ["script", "many"] (spD ⟨K, w⟩ 2 f__law_draws) := by
  have nd := sc__law_draws.nd
  have h := fun_ok (P := P) (w := w) (K := ⟨K, w⟩) (mg := mg) (base := base) (N := ["script", "many", "draws", "mixed", "k", "cell", "rest", "turn"]) (ps := ["script", "many"]) (ms := [true, true]) (body := b__law_draws) (k := 0) F sc__law_draws rfl (fun cdv A outer s H E hr =>
  (sc (sset (by decide) nd rfl (by first | exact .inl rfl | exact .inr rfl) (el an))
 (sc (sset (by decide) nd rfl (by first | exact .inl rfl | exact .inr rfl) ci)
 (sc (sfor PassesOwn.never rfl (ir1 (by rfl) m_range (ac (eB cLen (by rfl) m_len (by rfl) (ac (pv' 0) an)) an)) (gn (by decide) nd rfl (by first | exact .inl rfl | exact .inr rfl))
 (sc (sset (by decide) nd rfl (by first | exact .inl rfl | exact .inr rfl) (eB cAbs (by rfl) m_abs (by rfl) (ac (eTy cInt (by rfl) m_int (by rfl) (ac (eix (u9 hr) (pv' 0) (pv' 4)) an)) an)))
 (sc (sset (by decide) nd rfl (by first | exact .inl rfl | exact .inr rfl) (e2 oMod (eTy cInt (by rfl) m_int (by rfl) (ac (e2 oAdd (e2 oAdd (e2 oMul (pv' 3) ci) (e2 oMod (pv' 5) ci)) (pv' 4)) an)) ci))
 (sc (sset (by decide) nd rfl (by first | exact .inl rfl | exact .inr rfl) ci)
 (sc (sif (tcmp (oGe (u64 hr)) (pv' 5) (e2 oPow ci ci))
 (s1 (sset (by decide) nd rfl (by first | exact .inl rfl | exact .inr rfl) (pv' 5)))
 (sc (sex (emut PySem.F.plainAttrs_list PySem.F.slot_list_append PySem.F.type_list_append mt_append ty_lst m_append (pv 2) (ac (e2 oMod (eTy cInt (by rfl) m_int (by rfl) (ac (pv' 5) an)) ci) an)))
 (s1 (sex (emut PySem.F.plainAttrs_list PySem.F.slot_list_append PySem.F.type_list_append mt_append ty_lst m_append (pv 2) (ac (e2 oMod (e2 oMod (eTy cInt (by rfl) m_int (by rfl) (ac (e2 oAdd (e2 oMul (pv' 3) ci) ci) an)) ci) ci) an))))))
 (s1 (sfor PassesOwn.never rfl (ir1 (by rfl) m_range (ac ci an)) (gn (by decide) nd rfl (by first | exact .inl rfl | exact .inr rfl))
 (s1 (sif (tcmp (oGt (u64 hr)) (pv' 6) ci)
 (sc (sex (emut PySem.F.plainAttrs_list PySem.F.slot_list_append PySem.F.type_list_append mt_append ty_lst m_append (pv 2) (ac (e2 oMod (eTy cInt (by rfl) m_int (by rfl) (ac (pv' 6) an)) ci) an)))
 (s1 (sset (by decide) nd rfl (by first | exact .inl rfl | exact .inr rfl) (e2 oDiv (pv' 6) ci))))
 sn)))))))))
 (sc (sfor PassesOwn.never rfl (ir1 (by rfl) m_range (ac (pv' 1) an)) (gn (by decide) nd rfl (by first | exact .inl rfl | exact .inr rfl))
 (sc (sset (by decide) nd rfl (by first | exact .inl rfl | exact .inr rfl) (e2 oMod (eTy cInt (by rfl) m_int (by rfl) (ac (e2 oAdd (e2 oAdd (e2 oMul (pv' 3) ci) (pv' 4)) ci) an)) ci))
 (s1 (sex (emut PySem.F.plainAttrs_list PySem.F.slot_list_append PySem.F.type_list_append mt_append ty_lst m_append (pv 2) (ac (e2 oMod (eTy cInt (by rfl) m_int (by rfl) (ac (pv' 3) an)) ci) an))))))
 (s1 (sret (esl (pv' 2) pn (pp (pv' 1))))))))))
  exact h
/-! ### _law_words -/
abbrev s__law_words : Stmt := topS 35
theorem sc__law_words : FnScope [] [] (defScope s__law_words) := ⟨rfl, rfl, rfl, by decide +kernel, rfl, by decide +kernel, by decide +kernel⟩
def b__law_words : DS :=
 (dRet (dLst (dCons (dC (.str "the")) (dCons (dC (.str "@1")) (dCons (dC (.str "@2")) (dCons (dC (.str "@2a")) (dCons (dC (.str "@1.2")) (dCons (dC (.str "@2.1")) (dCons (dC (.str "@3")) (dCons (dC (.str "@1.1")) (dCons (dC (.str "@2a.1")) (dCons (dC (.str "@9")) (dCons (dC (.str "@2.2a.1")) (dCons (dC (.str "@x")) (dCons (dC (.str "@")) (dCons (dC (.str "@1.")) (dCons (dC (.str "of")) (dCons (dC (.str "@3.2")) dNil))))))))))))))))))
def f__law_words : M Rs := runDef [] 0 b__law_words
theorem ok__law_words {f : Addr} {fd : FuncData} (F : Fun K "_law_words" "_law_words" s__law_words f fd)  : FnOk P w K mg base CX0 1 f fd [] (spD ⟨K, w⟩ 0 f__law_words) := by
  have nd := sc__law_words.nd
  have h := fun_ok (P := P) (w := w) (K := ⟨K, w⟩) (mg := mg) (base := base) (N := []) (ps := []) (ms := []) (body := b__law_words) (k := 0) F sc__law_words rfl (fun cdv A outer s H E hr =>
  (s1 (sret (el (ac cs (ac cs (ac cs (ac cs (ac cs (ac cs (ac cs (ac cs (ac cs (ac cs (ac cs (ac cs (ac cs (ac cs (ac cs (ac cs an))))))))))))))))))))
  exact h
/-! ### _law_paths -/
abbrev s__law_paths : Stmt := topS 27
theorem sc__law_paths : FnScope ["body", "found", "label", "words", "kids", "path"] ["body"] (defScope s__law_paths) := ⟨rfl, rfl, rfl, by decide +kernel, rfl, by decide +kernel, by decide +kernel⟩
def b__law_paths (self : M Rs) : DS :=
 (dSeq (dSet 1 (dLst dNil))
 (dSeq (dFor (dWk (dVar 0)) (gT 3 (gsC (gN 2) (gsC (gN 3) (gsC (gN 4) gsN))))
 ((dSet 1 (dOp2 gAdd (dOp2 gAdd (dVar 1) (dLst (dCons (dTup (dCons (dVar 2) dNil)) dNil))) (dLc [5] (dWk (dCall [true] self (dCons (dVar 4) dNil))) (gN 5) dYes (dOp2 gAdd (dTup (dCons (dVar 2) dNil)) (dVar 5)))))))
 (dRet (dVar 1))))
def f__law_paths : Nat → M Rs
  | 0 => fun _ => .bad
  | d + 1 => runDef [true] 6 (b__law_paths (f__law_paths d))
theorem ok__law_paths {f : Addr} {fd : FuncData} (F : Fun K "_law_paths" "_law_paths" s__law_paths f fd) (g__law_paths : mg "_law_paths" = some (.ref f)) (i__law_paths : Binds K fd ["body"] [])  : ∀ d, FnOk P w K mg base CX0 (0 + d) f fd ["body"] (spD ⟨K, w⟩ 1 (f__law_paths d))
  | 0 => fnok_bad
  | d + 1 => by
    have nd := sc__law_paths.nd
    have G__law_paths := ok__law_paths F g__law_paths i__law_paths  d
    have k__law_paths := F.kp
    have h := fun_ok (P := P) (w := w) (K := ⟨K, w⟩) (mg := mg) (base := base) (N := ["body", "found", "label", "words", "kids", "path"]) (ps := ["body"]) (ms := [true]) (body := b__law_paths (f__law_paths d)) (k := 0 + d) F sc__law_paths rfl (fun cdv A outer s H E hr =>
  (sc (sset (by decide) nd rfl (by first | exact .inl rfl | exact .inr rfl) (el an))
 (sc (sfor PassesOwn.never rfl (iw (pv' 0)) (gt rfl (gsc (gn (by decide) nd rfl (by first | exact .inl rfl | exact .inr rfl)) (gsc (gn (by decide) nd rfl (by first | exact .inl rfl | exact .inr rfl)) (gsc (gn (by decide) nd rfl (by first | exact .inl rfl | exact .inr rfl)) gsn))))
 (s1 (sset (by decide) nd rfl (by first | exact .inl rfl | exact .inr rfl) (e2 oAdd (e2 oAdd (pv' 1) (el (ac (et (ac (pv' 2) an)) an))) (lc (own := [("path", 5)]) rfl nd (iw (ecall G__law_paths (hr.mono (by omega)) (by rfl) g__law_paths k__law_paths i__law_paths rfl (ac (pv' 4) an))) (blkOk_by (by rfl)) (fun _ _ _ _ _ => (gn (by decide) nd rfl (by first | exact .inl rfl | exact .inr rfl))) (fun _ _ _ _ _ => tn) (fun _ _ _ _ _ => (e2 oAdd (et (ac (pv' 2) an)) (pv' 5))))))))
 (s1 (sret (pv' 1))))))
    exact h
/-! ### _law_node -/
abbrev s__law_node : Stmt := topS 26
theorem sc__law_node : FnScope ["body", "path", "found", "label", "able", "node"] ["body", "path"] (defScope s__law_node) := ⟨rfl, rfl, rfl, by decide +kernel, rfl, by decide +kernel, by decide +kernel⟩
def b__law_node : DS :=
 (dSeq (dSet 2 (dC .none))
 (dSeq (dFor (dWk (dVar 1)) (gN 3)
 ((dSeq (dSet 4 (dLc [5] (dWk (dVar 0)) (gN 5) (dOp2T gEqX (dOp2 gIx (dVar 5) (dC (.int 0))) (dVar 3)) (dVar 5)))
 (dSeq (dIf (dOp2T gEqX (dVar 4) (dLst dNil))
 ((dRet (dC .none)))
 (dPass))
 (dPar [2, 0] (dCons (dOp2 gIx (dVar 4) (dC (.int 0))) (dCons (dOp2 gIx (dOp2 gIx (dVar 4) (dC (.int 0))) (dC (.int 2))) dNil)))))))
 (dRet (dVar 2))))
def f__law_node : M Rs := runDef [false, true] 6 b__law_node
theorem ok__law_node {f : Addr} {fd : FuncData} (F : Fun K "_law_node" "_law_node" s__law_node f fd)  : FnOk P w K mg base CX0 1 f fd ["body", "path"] (spD ⟨K, w⟩ 2 f__law_node) := by
  have nd := sc__law_node.nd
  have h := fun_ok (P := P) (w := w) (K := ⟨K, w⟩) (mg := mg) (base := base) (N := ["body", "path", "found", "label", "able", "node"]) (ps := ["body", "path"]) (ms := [false, true]) (body := b__law_node) (k := 0) F sc__law_node rfl (fun cdv A outer s H E hr =>
  (sc (sset (by decide) nd rfl (by first | exact .inl rfl | exact .inr rfl) cn)
 (sc (sfor PassesOwn.never rfl (iw (pv' 1)) (gn (by decide) nd rfl (by first | exact .inl rfl | exact .inr rfl))
 (sc (slc (own := [("node", 5)]) (by decide) rfl nd rfl rfl (sw_true rfl rfl rfl rfl) (iw (pv' 0)) (blkOk_by (by rfl)) (fun _ _ _ _ _ => (gn (by decide) nd rfl (by first | exact .inl rfl | exact .inr rfl))) (fun _ _ _ _ _ => (t1 (tcmp (oEqX (u65 hr)) (eix (u9 hr) (pv' 5) ci) (pv' 3)))) (fun _ _ _ _ _ => (pv' 5)))
 (sc (sif (tcmp (oEqX (u65 hr)) (pv' 4) (el an))
 (s1 (sret cn))
 sn)
 (s1 (spar (by decide) (by decide) rfl nd rfl rfl (by decide) rfl rfl (ac (eix (u9 hr) (pv' 4) ci) (ac (eix (u9 hr) (eix (u9 hr) (pv' 4) ci) ci) an)))))))
 (s1 (sret (pv' 2))))))
  exact h
/-! ### _law_goal_of -/
abbrev s__law_goal_of : Stmt := topS 33
theorem sc__law_goal_of : FnScope ["word", "path", "label", "sign"] ["word"] (defScope s__law_goal_of) := ⟨rfl, rfl, rfl, by decide +kernel, rfl, by decide +kernel, by decide +kernel⟩
def b__law_goal_of : DS :=
 (dSeq (dIf (dOr (dOp2T gNe (dOp2 gIx (dVar 0) (dC (.int 0))) (dC (.str "@"))) (dOp2T gLt (dB gLen (dCons (dVar 0) dNil)) (dC (.int 2))))
 ((dRet (dC .none)))
 (dPass))
 (dSeq (dSet 1 (dB gTuple (dCons (dMe isStr gSplit (dSl (dVar 0) (dPart (dC (.int 1))) dNoP) (dCons (dC (.str ".")) dNil)) dNil)))
 (dSeq (dFor (dWk (dVar 1)) (gN 2)
 ((dIf (dOr (dOp2T gEq (dVar 2) (dC (.str ""))) (dOr (dNot (dChainT gLe gLe (dC (.str "1")) (dOp2 gIx (dVar 2) (dC (.int 0))) (dC (.str "9")))) (dOp2T gNe (dLc [3] (dWk (dSl (dVar 2) (dPart (dC (.int 1))) dNoP)) (gN 3) (dNot (dChainT gLe gLe (dC (.str "a")) (dVar 3) (dC (.str "z")))) (dVar 3)) (dLst dNil))))
 ((dRet (dC .none)))
 (dPass))))
 (dRet (dVar 1)))))
def f__law_goal_of : M Rs := runDef [true] 4 b__law_goal_of
theorem ok__law_goal_of {f : Addr} {fd : FuncData} (F : Fun K "_law_goal_of" "_law_goal_of" s__law_goal_of f fd) (m_len : mg "len" = none) (m_tuple : mg "tuple" = none) : FnOk P w K mg base CX0 1 f fd ["word"] (spD ⟨K, w⟩ 1 f__law_goal_of) := by
  have nd := sc__law_goal_of.nd
  have h := fun_ok (P := P) (w := w) (K := ⟨K, w⟩) (mg := mg) (base := base) (N := ["word", "path", "label", "sign"]) (ps := ["word"]) (ms := [true]) (body := b__law_goal_of) (k := 0) F sc__law_goal_of rfl (fun cdv A outer s H E hr =>
  (sc (sif (twp (wor (tcmp (oNe (u64 hr)) (eix (u9 hr) (pv' 0) ci) cs) (wor1 (tcmp (oLt (u64 hr)) (eB cLen (by rfl) m_len (by rfl) (ac (pv' 0) an)) ci))))
 (s1 (sret cn))
 sn)
 (sc (sset (by decide) nd rfl (by first | exact .inl rfl | exact .inr rfl) (eTy cTuple (by rfl) m_tuple (by rfl) (ac (eme PySem.F.plainAttrs_str PySem.F.slot_str_split PySem.F.type_str_split m_split vy_str (esl (pv' 0) (pp ci) pn) (ac cs an)) an)))
 (sc (sfor PassesOwn.never rfl (iw (pv' 1)) (gn (by decide) nd rfl (by first | exact .inl rfl | exact .inr rfl))
 (s1 (sif (twp (wor (tcmp (oEq (u64 hr)) (pv' 2) cs) (wor (tnot (tch (oLe (u64 hr)) (oLe (u64 hr)) cs (eix (u9 hr) (pv' 2) ci) cs)) (wor1 (tcmp (oNe (u64 hr)) (lc (own := [("sign", 3)]) rfl nd (iw (esl (pv' 2) (pp ci) pn)) (blkOk_by (by rfl)) (fun _ _ _ _ _ => (gn (by decide) nd rfl (by first | exact .inl rfl | exact .inr rfl))) (fun _ _ _ _ _ => (t1 (tnot (tch (oLe (u64 hr)) (oLe (u64 hr)) cs (pv' 3) cs)))) (fun _ _ _ _ _ => (pv' 3))) (el an))))))
 (s1 (sret cn))
 sn)))
 (s1 (sret (pv' 1)))))))
  exact h
/-! ### _law_refs -/
abbrev s__law_refs : Stmt := topS 34
theorem sc__law_refs : FnScope ["body", "found", "path", "words", "place"] ["body"] (defScope s__law_refs) := ⟨rfl, rfl, rfl, by decide +kernel, rfl, by decide +kernel, by decide +kernel⟩
def b__law_refs : DS :=
 (dSeq (dSet 1 (dLst dNil))
 (dSeq (dFor (dWk (dCall [true] (f__law_paths 5) (dCons (dVar 0) dNil))) (gN 2)
 ((dSeq (dSet 3 (dOp2 gIx (dCall [false, true] f__law_node (dCons (dVar 0) (dCons (dVar 2) dNil))) (dC (.int 1))))
 (dFor (dRng1 (dCons (dB gLen (dCons (dVar 3) dNil)) dNil)) (gN 4)
 ((dIf (dOp2T gIsNot (dCall [true] f__law_goal_of (dCons (dOp2 gIx (dVar 3) (dVar 4)) dNil)) (dC .none))
 ((dDrop (dMut 1 isLst true gAppend (dCons (dTup (dCons (dVar 2) (dCons (dVar 4) (dCons (dCall [true] f__law_goal_of (dCons (dOp2 gIx (dVar 3) (dVar 4)) dNil)) dNil)))) dNil))))
 (dPass)))))))
 (dRet (dVar 1))))
def f__law_refs : M Rs := runDef [true] 5 b__law_refs
theorem ok__law_refs {f : Addr} {fd : FuncData} (F : Fun K "_law_refs" "_law_refs" s__law_refs f fd) {f_a__law_paths : Addr} {d__law_paths : FuncData} (G__law_paths : FnOk P w K mg base CX0 5 f_a__law_paths d__law_paths ["body"] (spD ⟨K, w⟩ 1 (f__law_paths 5))) (g__law_paths : mg "_law_paths" = some (.ref f_a__law_paths)) (k__law_paths : PySem.W.keepIn K (.ref f_a__law_paths) = true) (i__law_paths : Binds K d__law_paths ["body"] []) {f_a__law_node : Addr} {d__law_node : FuncData} (G__law_node : FnOk P w K mg base CX0 1 f_a__law_node d__law_node ["body", "path"] (spD ⟨K, w⟩ 2 f__law_node)) (g__law_node : mg "_law_node" = some (.ref f_a__law_node)) (k__law_node : PySem.W.keepIn K (.ref f_a__law_node) = true) (i__law_node : Binds K d__law_node ["body", "path"] []) {f_a__law_goal_of : Addr} {d__law_goal_of : FuncData} (G__law_goal_of : FnOk P w K mg base CX0 1 f_a__law_goal_of d__law_goal_of ["word"] (spD ⟨K, w⟩ 1 f__law_goal_of)) (g__law_goal_of : mg "_law_goal_of" = some (.ref f_a__law_goal_of)) (k__law_goal_of : PySem.W.keepIn K (.ref f_a__law_goal_of) = true) (i__law_goal_of : Binds K d__law_goal_of ["word"] []) (m_range : mg "range" = none) (m_len : mg "len" = none) : FnOk P w K mg base CX0 6 f fd ["body"] (spD ⟨K, w⟩ 1 f__law_refs) := by
  have nd := sc__law_refs.nd
  have h := fun_ok (P := P) (w := w) (K := ⟨K, w⟩) (mg := mg) (base := base) (N := ["body", "found", "path", "words", "place"]) (ps := ["body"]) (ms := [true]) (body := b__law_refs) (k := 5) F sc__law_refs rfl (fun cdv A outer s H E hr =>
  (sc (sset (by decide) nd rfl (by first | exact .inl rfl | exact .inr rfl) (el an))
 (sc (sfor PassesOwn.never rfl (iw (ecall G__law_paths (hr.mono (by omega)) (by rfl) g__law_paths k__law_paths i__law_paths rfl (ac (pv' 0) an))) (gn (by decide) nd rfl (by first | exact .inl rfl | exact .inr rfl))
 (sc (sset (by decide) nd rfl (by first | exact .inl rfl | exact .inr rfl) (eix (u9 hr) (ecall G__law_node (hr.mono (by omega)) (by rfl) g__law_node k__law_node i__law_node rfl (ac (pv' 0) (ac (pv' 2) an))) ci))
 (s1 (sfor PassesOwn.never rfl (ir1 (by rfl) m_range (ac (eB cLen (by rfl) m_len (by rfl) (ac (pv' 3) an)) an)) (gn (by decide) nd rfl (by first | exact .inl rfl | exact .inr rfl))
 (s1 (sif (tcmp oIsNot (ecall G__law_goal_of (hr.mono (by omega)) (by rfl) g__law_goal_of k__law_goal_of i__law_goal_of rfl (ac (eix (u9 hr) (pv' 3) (pv' 4)) an)) cn)
 (s1 (sex (emut PySem.F.plainAttrs_list PySem.F.slot_list_append PySem.F.type_list_append mt_append ty_lst m_append (pv 1) (ac (et (ac (pv' 2) (ac (pv' 4) (ac (ecall G__law_goal_of (hr.mono (by omega)) (by rfl) g__law_goal_of k__law_goal_of i__law_goal_of rfl (ac (eix (u9 hr) (pv' 3) (pv' 4)) an)) an)))) an))))
 sn))))))
 (s1 (sret (pv' 1))))))
  exact h
/-! ### _law_same -/
abbrev s__law_same : Stmt := topS 24
theorem sc__law_same : FnScope ["seen", "due", "k"] ["seen", "due"] (defScope s__law_same) := ⟨rfl, rfl, rfl, by decide +kernel, rfl, by decide +kernel, by decide +kernel⟩
def b__law_same (self : M Rs) : DS :=
 (dSeq (dIf (dTru (dIsi .tuple (dVar 1)))
 ((dSeq (dIf (dOr (dNot (dTru (dIsi .tuple (dVar 0)))) (dOp2T gNe (dB gLen (dCons (dVar 0) dNil)) (dB gLen (dCons (dVar 1) dNil))))
 ((dRet (dC (.bool false))))
 (dPass))
 (dRet (dOp2 (gB gEq) (dLc [2] (dRng1 (dCons (dB gLen (dCons (dVar 1) dNil)) dNil)) (gN 2) (dNot (dTru (dCall [true, true] self (dCons (dOp2 gIx (dVar 0) (dVar 2)) (dCons (dOp2 gIx (dVar 1) (dVar 2)) dNil))))) (dVar 2)) (dLst dNil)))))
 (dPass))
 (dSeq (dIf (dOp2T gIs (dVar 1) (dC .none))
 ((dRet (dOp2 (gB gIs) (dVar 0) (dC .none))))
 (dPass))
 (dSeq (dIf (dTru (dIsi .str (dVar 1)))
 ((dRet (dAndV (dIsi .str (dVar 0)) (dOp2 (gB gEq) (dVar 0) (dVar 1)))))
 (dPass))
 (dRet (dAndV (dIsi .int (dVar 0)) (dAndV (dOp2 (gB gEq) (dIsi .bool (dVar 0)) (dIsi .bool (dVar 1))) (dOp2 (gB gEq) (dVar 0) (dVar 1))))))))
def f__law_same : Nat → M Rs
  | 0 => fun _ => .bad
  | d + 1 => runDef [true, true] 3 (b__law_same (f__law_same d))
theorem ok__law_same {f : Addr} {fd : FuncData} (F : Fun K "_law_same" "_law_same" s__law_same f fd) (g__law_same : mg "_law_same" = some (.ref f)) (i__law_same : Binds K fd ["seen", "due"] []) (m_isinstance : mg "isinstance" = none) (m_tuple : mg "tuple" = none) (m_len : mg "len" = none) (m_range : mg "range" = none) (m_str : mg "str" = none) (m_bool : mg "bool" = none) (m_int : mg "int" = none) : ∀ d, FnOk P w K mg base CX0 (0 + d) f fd ["seen", "due"] (spD ⟨K, w⟩ 2 (f__law_same d))
  | 0 => fnok_bad
  | d + 1 => by
    have nd := sc__law_same.nd
    have G__law_same := ok__law_same F g__law_same i__law_same m_isinstance m_tuple m_len m_range m_str m_bool m_int d
    have k__law_same := F.kp
    have h := fun_ok (P := P) (w := w) (K := ⟨K, w⟩) (mg := mg) (base := base) (N := ["seen", "due", "k"]) (ps := ["seen", "due"]) (ms := [true, true]) (body := b__law_same (f__law_same d)) (k := 0 + d) F sc__law_same rfl (fun cdv A outer s H E hr =>
  (sc (sif (ttr (eisi .tuple (by rfl) m_isinstance (by rfl) m_tuple (by rfl) (pv' 1)))
 (sc (sif (twp (wor (tnot (ttr (eisi .tuple (by rfl) m_isinstance (by rfl) m_tuple (by rfl) (pv' 0)))) (wor1 (tcmp (oNe (u64 hr)) (eB cLen (by rfl) m_len (by rfl) (ac (pv' 0) an)) (eB cLen (by rfl) m_len (by rfl) (ac (pv' 1) an))))))
 (s1 (sret cb))
 sn)
 (s1 (sret (ecmp (oEq (u64 hr)) (lc (own := [("k", 2)]) rfl nd (ir1 (by rfl) m_range (ac (eB cLen (by rfl) m_len (by rfl) (ac (pv' 1) an)) an)) (blkOk_by (by rfl)) (fun _ _ _ _ _ => (gn (by decide) nd rfl (by first | exact .inl rfl | exact .inr rfl))) (fun _ _ _ _ _ => (t1 (tnot (ttr (ecall G__law_same (hr.mono (by omega)) (by rfl) g__law_same k__law_same i__law_same rfl (ac (eix (u9 hr) (pv' 0) (pv' 2)) (ac (eix (u9 hr) (pv' 1) (pv' 2)) an))))))) (fun _ _ _ _ _ => (pv' 2))) (el an)))))
 sn)
 (sc (sif (tcmp oIs (pv' 1) cn)
 (s1 (sret (ecmp oIs (pv' 0) cn)))
 sn)
 (sc (sif (ttr (eisi .str (by rfl) m_isinstance (by rfl) m_str (by rfl) (pv' 1)))
 (s1 (sret (evand (eisi .str (by rfl) m_isinstance (by rfl) m_str (by rfl) (pv' 0)) (evone (ecmp (oEq (u64 hr)) (pv' 0) (pv' 1))))))
 sn)
 (s1 (sret (evand (eisi .int (by rfl) m_isinstance (by rfl) m_int (by rfl) (pv' 0)) (evand (ecmp (oEq (u64 hr)) (eisi .bool (by rfl) m_isinstance (by rfl) m_bool (by rfl) (pv' 0)) (eisi .bool (by rfl) m_isinstance (by rfl) m_bool (by rfl) (pv' 1))) (evone (ecmp (oEq (u64 hr)) (pv' 0) (pv' 1)))))))))))
    exact h
/-! ### dangling -/
abbrev s_dangling : Stmt := topS 15
theorem sc_dangling : FnScope ["body", "ref"] ["body"] (defScope s_dangling) := ⟨rfl, rfl, rfl, by decide +kernel, rfl, by decide +kernel, by decide +kernel⟩
def b_dangling : DS :=
 (dRet (dB gTuple (dCons (dLc [1] (dWk (dCall [true] f_refs_of (dCons (dVar 0) dNil))) (gN 1) (dOp2T gIs (dCall [false, true] f_node_at (dCons (dVar 0) (dCons (dOp2 gIx (dVar 1) (dC (.int 2))) dNil))) (dC .none)) (dVar 1)) dNil)))
def f_dangling : M Rs := runDef [true] 2 b_dangling
theorem ok_dangling {f : Addr} {fd : FuncData} (F : Fun K "dangling" "dangling" s_dangling f fd) {f_a_refs_of : Addr} {d_refs_of : FuncData} (G_refs_of : FnOk P w K mg base CX0 6 f_a_refs_of d_refs_of ["body"] (spD ⟨K, w⟩ 1 f_refs_of)) (g_refs_of : mg "refs_of" = some (.ref f_a_refs_of)) (k_refs_of : PySem.W.keepIn K (.ref f_a_refs_of) = true) (i_refs_of : Binds K d_refs_of ["body"] []) {f_a_node_at : Addr} {d_node_at : FuncData} (G_node_at : FnOk P w K mg base CX0 1 f_a_node_at d_node_at ["body", "path"] (spD ⟨K, w⟩ 2 f_node_at)) (g_node_at : mg "node_at" = some (.ref f_a_node_at)) (k_node_at : PySem.W.keepIn K (.ref f_a_node_at) = true) (i_node_at : Binds K d_node_at ["body", "path"] []) (m_tuple : mg "tuple" = none) : FnOk P w K mg base CX0 7 f fd ["body"] (spD ⟨K, w⟩ 1 f_dangling) := by
  have nd := sc_dangling.nd
  have h := fun_ok (P := P) (w := w) (K := ⟨K, w⟩) (mg := mg) (base := base) (N := ["body", "ref"]) (ps := ["body"]) (ms := [true]) (body := b_dangling) (k := 6) F sc_dangling rfl (fun cdv A outer s H E hr =>
  (s1 (sret (eTy cTuple (by rfl) m_tuple (by rfl) (ac (lc (own := [("ref", 1)]) rfl nd (iw (ecall G_refs_of (hr.mono (by omega)) (by rfl) g_refs_of k_refs_of i_refs_of rfl (ac (pv' 0) an))) (blkOk_by (by rfl)) (fun _ _ _ _ _ => (gn (by decide) nd rfl (by first | exact .inl rfl | exact .inr rfl))) (fun _ _ _ _ _ => (t1 (tcmp oIs (ecall G_node_at (hr.mono (by omega)) (by rfl) g_node_at k_node_at i_node_at rfl (ac (pv' 0) (ac (eix (u9 hr) (pv' 1) ci) an))) cn))) (fun _ _ _ _ _ => (pv' 1))) an)))))
  exact h
/-! ### is_within -/
abbrev s_is_within : Stmt := topS 11
theorem sc_is_within : FnScope ["path", "other"] ["path", "other"] (defScope s_is_within) := ⟨rfl, rfl, rfl, by decide +kernel, rfl, by decide +kernel, by decide +kernel⟩
def b_is_within : DS :=
 (dRet (dOp2 (gB gEq) (dSl (dVar 0) dNoP (dPart (dB gLen (dCons (dVar 1) dNil)))) (dVar 1)))
def f_is_within : M Rs := runDef [true, true] 2 b_is_within
theorem ok_is_within {f : Addr} {fd : FuncData} (F : Fun K "is_within" "is_within" s_is_within f fd) (m_len : mg "len" = none) : FnOk P w K mg base CX0 1 f fd ["path", "other"] (spD ⟨K, w⟩ 2 f_is_within) := by
  have nd := sc_is_within.nd
  have h := fun_ok (P := P) (w := w) (K := ⟨K, w⟩) (mg := mg) (base := base) (N := ["path", "other"]) (ps := ["path", "other"]) (ms := [true, true]) (body := b_is_within) (k := 0) F sc_is_within rfl (fun cdv A outer s H E hr =>
  (s1 (sret (ecmp (oEq (u64 hr)) (esl (pv' 0) pn (pp (eB cLen (by rfl) m_len (by rfl) (ac (pv' 1) an)))) (pv' 1)))))
  exact h
/-! ### refs_to -/
abbrev s_refs_to : Stmt := topS 16
theorem sc_refs_to : FnScope ["body", "path", "ref"] ["body", "path"] (defScope s_refs_to) := ⟨rfl, rfl, rfl, by decide +kernel, rfl, by decide +kernel, by decide +kernel⟩
def b_refs_to : DS :=
 (dRet (dB gTuple (dCons (dLc [2] (dWk (dCall [true] f_refs_of (dCons (dVar 0) dNil))) (gN 2) (dTru (dCall [true, true] f_is_within (dCons (dOp2 gIx (dVar 2) (dC (.int 2))) (dCons (dVar 1) dNil)))) (dVar 2)) dNil)))
def f_refs_to : M Rs := runDef [true, true] 3 b_refs_to
theorem ok_refs_to {f : Addr} {fd : FuncData} (F : Fun K "refs_to" "refs_to" s_refs_to f fd) {f_a_refs_of : Addr} {d_refs_of : FuncData} (G_refs_of : FnOk P w K mg base CX0 6 f_a_refs_of d_refs_of ["body"] (spD ⟨K, w⟩ 1 f_refs_of)) (g_refs_of : mg "refs_of" = some (.ref f_a_refs_of)) (k_refs_of : PySem.W.keepIn K (.ref f_a_refs_of) = true) (i_refs_of : Binds K d_refs_of ["body"] []) {f_a_is_within : Addr} {d_is_within : FuncData} (G_is_within : FnOk P w K mg base CX0 1 f_a_is_within d_is_within ["path", "other"] (spD ⟨K, w⟩ 2 f_is_within)) (g_is_within : mg "is_within" = some (.ref f_a_is_within)) (k_is_within : PySem.W.keepIn K (.ref f_a_is_within) = true) (i_is_within : Binds K d_is_within ["path", "other"] []) (m_tuple : mg "tuple" = none) : FnOk P w K mg base CX0 7 f fd ["body", "path"] (spD ⟨K, w⟩ 2 f_refs_to) := by
  have nd := sc_refs_to.nd
  have h := fun_ok (P := P) (w := w) (K := ⟨K, w⟩) (mg := mg) (base := base) (N := ["body", "path", "ref"]) (ps := ["body", "path"]) (ms := [true, true]) (body := b_refs_to) (k := 6) F sc_refs_to rfl (fun cdv A outer s H E hr =>
  (s1 (sret (eTy cTuple (by rfl) m_tuple (by rfl) (ac (lc (own := [("ref", 2)]) rfl nd (iw (ecall G_refs_of (hr.mono (by omega)) (by rfl) g_refs_of k_refs_of i_refs_of rfl (ac (pv' 0) an))) (blkOk_by (by rfl)) (fun _ _ _ _ _ => (gn (by decide) nd rfl (by first | exact .inl rfl | exact .inr rfl))) (fun _ _ _ _ _ => (t1 (ttr (ecall G_is_within (hr.mono (by omega)) (by rfl) g_is_within k_is_within i_is_within rfl (ac (eix (u9 hr) (pv' 2) ci) (ac (pv' 1) an)))))) (fun _ _ _ _ _ => (pv' 2))) an)))))
  exact h
/-! ### _law_far -/
abbrev s__law_far : Stmt := topS 36
theorem sc__law_far : FnScope ["refs", "path", "layer", "met", "turn", "later", "one", "own", "place", "goal"] ["refs", "path"] (defScope s__law_far) := ⟨rfl, rfl, rfl, by decide +kernel, rfl, by decide +kernel, by decide +kernel⟩
def b__law_far : DS :=
 (dSeq (dPar [2, 3] (dCons (dLst (dCons (dVar 1) dNil)) (dCons (dLst dNil) dNil)))
 (dSeq (dFor (dRng2 (dCons (dC (.int 1)) (dCons (dC (.int 60)) dNil))) (gN 4)
 ((dSeq (dSet 5 (dLst dNil))
 (dSeq (dFor (dWk (dVar 2)) (gN 6)
 ((dSet 5 (dOp2 gAdd (dVar 5) (dLc [7, 8, 9] (dWk (dVar 0)) (gT 3 (gsC (gN 7) (gsC (gN 8) (gsC (gN 9) gsN)))) (dAnd (dOp2T gEq (dVar 7) (dVar 6)) (dOp2T gNotIn (dVar 9) (dVar 5))) (dVar 9))))))
 (dSeq (dIf (dOp2T gIn (dVar 1) (dVar 5))
 ((dRet (dVar 4)))
 (dPass))
 (dSeq (dSet 2 (dLc [9] (dWk (dVar 5)) (gN 9) (dOp2T gNotIn (dVar 9) (dVar 3)) (dVar 9)))
 (dSet 3 (dOp2 gAdd (dVar 3) (dVar 2)))))))))
 (dRet (dC .none))))
def f__law_far : M Rs := runDef [true, true] 10 b__law_far
theorem ok__law_far {f : Addr} {fd : FuncData} (F : Fun K "_law_far" "_law_far" s__law_far f fd) (m_range : mg "range" = none) : FnOk P w K mg base CX0 1 f fd ["refs", "path"] (spD ⟨K, w⟩ 2 f__law_far) := by
  have nd := sc__law_far.nd
  have h := fun_ok (P := P) (w := w) (K := ⟨K, w⟩) (mg := mg) (base := base) (N := ["refs", "path", "layer", "met", "turn", "later", "one", "own", "place", "goal"]) (ps := ["refs", "path"]) (ms := [true, true]) (body := b__law_far) (k := 0) F sc__law_far rfl (fun cdv A outer s H E hr =>
  (sc (sparU (by decide) (by decide) rfl nd rfl rfl (by first | exact .inl rfl | exact .inr rfl) (by first | exact .inl rfl | exact .inr rfl) (ac (el (ac (pv' 1) an)) (ac (el an) an)))
 (sc (sfor PassesOwn.never rfl (ir2 (by rfl) m_range (ac ci (ac ci an))) (gn (by decide) nd rfl (by first | exact .inl rfl | exact .inr rfl))
 (sc (sset (by decide) nd rfl (by first | exact .inl rfl | exact .inr rfl) (el an))
 (sc (sfor PassesOwn.never rfl (iw (pv' 2)) (gn (by decide) nd rfl (by first | exact .inl rfl | exact .inr rfl))
 (s1 (sset (by decide) nd rfl (by first | exact .inl rfl | exact .inr rfl) (e2 oAdd (pv' 5) (lc (own := [("own", 7), ("place", 8), ("goal", 9)]) rfl nd (iw (pv' 0)) (blkOk_by (by rfl)) (fun _ _ _ _ _ => (gt rfl (gsc (gn (by decide) nd rfl (by first | exact .inl rfl | exact .inr rfl)) (gsc (gn (by decide) nd rfl (by first | exact .inl rfl | exact .inr rfl)) (gsc (gn (by decide) nd rfl (by first | exact .inl rfl | exact .inr rfl)) gsn))))) (fun _ _ _ _ _ => (t1 (twp (wand (tcmp (oEq (u64 hr)) (pv' 7) (pv' 6)) (wand1 (tcmp (oNotIn (u65 hr)) (pv' 9) (pv' 5))))))) (fun _ _ _ _ _ => (pv' 9)))))))
 (sc (sif (tcmp (oIn (u65 hr)) (pv' 1) (pv' 5))
 (s1 (sret (pv' 4)))
 sn)
 (sc (slc (own := [("goal", 9)]) (by decide) rfl nd rfl rfl (sw_true rfl rfl rfl rfl) (iw (pv' 5)) (blkOk_by (by rfl)) (fun _ _ _ _ _ => (gn (by decide) nd rfl (by first | exact .inl rfl | exact .inr rfl))) (fun _ _ _ _ _ => (t1 (tcmp (oNotIn (u65 hr)) (pv' 9) (pv' 3)))) (fun _ _ _ _ _ => (pv' 9)))
 (s1 (sset (by decide) nd rfl (by first | exact .inl rfl | exact .inr rfl) (e2 oAdd (pv' 3) (pv' 2)))))))))
 (s1 (sret cn)))))
  exact h
/-! ### law -/
abbrev s_law : Stmt := topS 37
theorem sc_law : FnScope ["script", "w", "turn", "body", "refs", "paths", "ref", "path", "fars", "own", "far", "ring", "links", "place", "goal", "k"] ["script"] (defScope s_law) := ⟨rfl, rfl, rfl, by decide +kernel, rfl, by decide +kernel, by decide +kernel⟩
def b_law : DS :=
 (dSeq (dSet 1 (dDisp [((dC (.str "draws")), (dCall [true, true] f__law_draws (dCons (dVar 0) (dCons (dC (.int 400)) dNil)))), ((dC (.str "at")), (dC (.int 0)))]))
 (dSeq (dFor (dRng1 (dCons (dC (.int 5)) dNil)) (gN 2)
 ((dSeq (dSet 3 (dCall [true, true, true] (f__law_body 5) (dCons (dVar 1) (dCons (dC (.int 2)) (dCons (dCall [] f__law_words dNil) dNil)))))
 (dSeq (dPar [4, 5] (dCons (dCall [true] f__law_refs (dCons (dVar 3) dNil)) (dCons (dCall [true] (f__law_paths 5) (dCons (dVar 3) dNil)) dNil)))
 (dSeq (dIf (dNot (dTru (dCall [true, true] (f__law_same 6) (dCons (dCall [true] f_refs_of (dCons (dVar 3) dNil)) (dCons (dB gTuple (dCons (dVar 4) dNil)) dNil)))))
 ((dRet (dC (.bool false))))
 (dPass))
 (dSeq (dIf (dNot (dTru (dCall [true, true] (f__law_same 6) (dCons (dCall [true] f_dangling (dCons (dVar 3) dNil)) (dCons (dB gTuple (dCons (dLc [6] (dWk (dVar 4)) (gN 6) (dOp2T gNotIn (dOp2 gIx (dVar 6) (dC (.int 2))) (dVar 5)) (dVar 6)) dNil)) dNil)))))
 ((dRet (dC (.bool false))))
 (dPass))
 (dSeq (dSet 7 (dIfE (dOp2T gNeX (dVar 5) (dLst dNil)) (dCall [true, true] f__law_pick (dCons (dVar 1) (dCons (dVar 5) dNil))) (dTup (dCons (dC (.str "1")) dNil))))
 (dSeq (dIf (dNot (dTru (dCall [true, true] (f__law_same 6) (dCons (dCall [true, true] f_refs_to (dCons (dVar 3) (dCons (dVar 7) dNil))) (dCons (dB gTuple (dCons (dLc [6] (dWk (dVar 4)) (gN 6) (dOp2T gEqX (dSl (dOp2 gIx (dVar 6) (dC (.int 2))) dNoP (dPart (dB gLen (dCons (dVar 7) dNil)))) (dVar 7)) (dVar 6)) dNil)) dNil)))))
 ((dRet (dC (.bool false))))
 (dPass))
 (dSeq (dSet 8 (dLc [9] (dWk (dVar 5)) (gN 9) dYes (dCall [true, true] f__law_far (dCons (dVar 4) (dCons (dVar 9) dNil)))))
 (dSeq (dSet 8 (dLc [10] (dWk (dVar 8)) (gN 10) (dOp2T gIsNot (dVar 10) (dC .none)) (dVar 10)))
 (dSeq (dSet 11 (dCall [true] f_ref_ring (dCons (dVar 3) dNil)))
 (dSeq (dIf (dOp2T gEqX (dVar 8) (dLst dNil))
 ((dSeq (dIf (dOp2T gIsNot (dVar 11) (dC .none))
 ((dRet (dC (.bool false))))
 (dPass))
 dCnt))
 (dPass))
 (dSeq (dIf (dOr (dNot (dTru (dIsi .tuple (dVar 11)))) (dOp2T gNeX (dB gLen (dCons (dVar 11) dNil)) (dB gMin (dCons (dVar 8) dNil))))
 ((dRet (dC (.bool false))))
 (dPass))
 (dSeq (dSet 12 (dLc [9, 13, 14] (dWk (dVar 4)) (gT 3 (gsC (gN 9) (gsC (gN 13) (gsC (gN 14) gsN)))) dYes (dTup (dCons (dVar 9) (dCons (dVar 14) dNil)))))
 (dIf (dOp2T gNeX (dLc [15] (dRng1 (dCons (dB gLen (dCons (dVar 11) dNil)) dNil)) (gN 15) (dOp2T gNotIn (dTup (dCons (dOp2 gIx (dVar 11) (dOp2 gSub (dVar 15) (dC (.int 1)))) (dCons (dOp2 gIx (dVar 11) (dVar 15)) dNil))) (dVar 12)) (dVar 15)) (dLst dNil))
 ((dRet (dC (.bool false))))
 (dPass))))))))))))))))
 (dRet (dC (.bool true)))))
def f_law : M Rs := runDef [true] 16 b_law
theorem ok_law {f : Addr} {fd : FuncData} (F : Fun K "law" "law" s_law f fd) {f_a__law_draws : Addr} {d__law_draws : FuncData} (G__law_draws : FnOk P w K mg base CX0 1 f_a__law_draws d__law_draws ["script", "many"] (spD ⟨K, w⟩ 2 f__law_draws)) (g__law_draws : mg "_law_draws" = some (.ref f_a__law_draws)) (k__law_draws : PySem.W.keepIn K (.ref f_a__law_draws) = true) (i__law_draws : Binds K d__law_draws ["script", "many"] []) {f_a__law_body : Addr} {d__law_body : FuncData} (G__law_body : FnOk P w K mg base CX0 7 f_a__law_body d__law_body ["w", "deep", "words"] (spD ⟨K, w⟩ 3 (f__law_body 5))) (g__law_body : mg "_law_body" = some (.ref f_a__law_body)) (k__law_body : PySem.W.keepIn K (.ref f_a__law_body) = true) (i__law_body : Binds K d__law_body ["w", "deep", "words"] []) {f_a__law_words : Addr} {d__law_words : FuncData} (G__law_words : FnOk P w K mg base CX0 1 f_a__law_words d__law_words [] (spD ⟨K, w⟩ 0 f__law_words)) (g__law_words : mg "_law_words" = some (.ref f_a__law_words)) (k__law_words : PySem.W.keepIn K (.ref f_a__law_words) = true) (i__law_words : Binds K d__law_words [] []) {f_a__law_paths : Addr} {d__law_paths : FuncData} (G__law_paths : FnOk P w K mg base CX0 5 f_a__law_paths d__law_paths ["body"] (spD ⟨K, w⟩ 1 (f__law_paths 5))) (g__law_paths : mg "_law_paths" = some (.ref f_a__law_paths)) (k__law_paths : PySem.W.keepIn K (.ref f_a__law_paths) = true) (i__law_paths : Binds K d__law_paths ["body"] []) {f_a__law_refs : Addr} {d__law_refs : FuncData} (G__law_refs : FnOk P w K mg base CX0 6 f_a__law_refs d__law_refs ["body"] (spD ⟨K, w⟩ 1 f__law_refs)) (g__law_refs : mg "_law_refs" = some (.ref f_a__law_refs)) (k__law_refs : PySem.W.keepIn K (.ref f_a__law_refs) = true) (i__law_refs : Binds K d__law_refs ["body"] []) {f_a__law_same : Addr} {d__law_same : FuncData} (G__law_same : FnOk P w K mg base CX0 6 f_a__law_same d__law_same ["seen", "due"] (spD ⟨K, w⟩ 2 (f__law_same 6))) (g__law_same : mg "_law_same" = some (.ref f_a__law_same)) (k__law_same : PySem.W.keepIn K (.ref f_a__law_same) = true) (i__law_same : Binds K d__law_same ["seen", "due"] []) {f_a_refs_of : Addr} {d_refs_of : FuncData} (G_refs_of : FnOk P w K mg base CX0 6 f_a_refs_of d_refs_of ["body"] (spD ⟨K, w⟩ 1 f_refs_of)) (g_refs_of : mg "refs_of" = some (.ref f_a_refs_of)) (k_refs_of : PySem.W.keepIn K (.ref f_a_refs_of) = true) (i_refs_of : Binds K d_refs_of ["body"] []) {f_a_dangling : Addr} {d_dangling : FuncData} (G_dangling : FnOk P w K mg base CX0 7 f_a_dangling d_dangling ["body"] (spD ⟨K, w⟩ 1 f_dangling)) (g_dangling : mg "dangling" = some (.ref f_a_dangling)) (k_dangling : PySem.W.keepIn K (.ref f_a_dangling) = true) (i_dangling : Binds K d_dangling ["body"] []) {f_a__law_pick : Addr} {d__law_pick : FuncData} (G__law_pick : FnOk P w K mg base CX0 2 f_a__law_pick d__law_pick ["w", "rows"] (spD ⟨K, w⟩ 2 f__law_pick)) (g__law_pick : mg "_law_pick" = some (.ref f_a__law_pick)) (k__law_pick : PySem.W.keepIn K (.ref f_a__law_pick) = true) (i__law_pick : Binds K d__law_pick ["w", "rows"] []) {f_a_refs_to : Addr} {d_refs_to : FuncData} (G_refs_to : FnOk P w K mg base CX0 7 f_a_refs_to d_refs_to ["body", "path"] (spD ⟨K, w⟩ 2 f_refs_to)) (g_refs_to : mg "refs_to" = some (.ref f_a_refs_to)) (k_refs_to : PySem.W.keepIn K (.ref f_a_refs_to) = true) (i_refs_to : Binds K d_refs_to ["body", "path"] []) {f_a__law_far : Addr} {d__law_far : FuncData} (G__law_far : FnOk P w K mg base CX0 1 f_a__law_far d__law_far ["refs", "path"] (spD ⟨K, w⟩ 2 f__law_far)) (g__law_far : mg "_law_far" = some (.ref f_a__law_far)) (k__law_far : PySem.W.keepIn K (.ref f_a__law_far) = true) (i__law_far : Binds K d__law_far ["refs", "path"] []) {f_a_ref_ring : Addr} {d_ref_ring : FuncData} (G_ref_ring : FnOk P w K mg base CX0 7 f_a_ref_ring d_ref_ring ["body"] (spD ⟨K, w⟩ 1 f_ref_ring)) (g_ref_ring : mg "ref_ring" = some (.ref f_a_ref_ring)) (k_ref_ring : PySem.W.keepIn K (.ref f_a_ref_ring) = true) (i_ref_ring : Binds K d_ref_ring ["body"] []) (m_range : mg "range" = none) (m_tuple : mg "tuple" = none) (m_len : mg "len" = none) (m_min : mg "min" = none) (m_isinstance : mg "isinstance" = none) : FnOk P w K mg base CX0 8 f fd ["script"] (spD ⟨K, w⟩ 1 f_law) := by
  have nd := sc_law.nd
  have h := fun_ok (P := P) (w := w) (K := ⟨K, w⟩) (mg := mg) (base := base) (N := ["script", "w", "turn", "body", "refs", "paths", "ref", "path", "fars", "own", "far", "ring", "links", "place", "goal", "k"]) (ps := ["script"]) (ms := [true]) (body := b_law) (k := 7) F sc_law rfl (fun cdv A outer s H E hr =>
  (sc (sset (by decide) nd rfl (by first | exact .inl rfl | exact .inr rfl) (edi (pps_cons cs (ecall G__law_draws (hr.mono (by omega)) (by rfl) g__law_draws k__law_draws i__law_draws rfl (ac (pv' 0) (ac ci an))) (pps_cons cs ci pps_nil))))
 (sc (sfor PassesOwn.never rfl (ir1 (by rfl) m_range (ac ci an)) (gn (by decide) nd rfl (by first | exact .inl rfl | exact .inr rfl))
 (sc (sset (by decide) nd rfl (by first | exact .inl rfl | exact .inr rfl) (ecall G__law_body (hr.mono (by omega)) (by rfl) g__law_body k__law_body i__law_body rfl (ac (pv' 1) (ac ci (ac (ecall0 G__law_words (hr.mono (by omega)) (by rfl) g__law_words k__law_words i__law_words) an)))))
 (sc (sparU (by decide) (by decide) rfl nd rfl rfl (by first | exact .inl rfl | exact .inr rfl) (by first | exact .inl rfl | exact .inr rfl) (ac (ecall G__law_refs (hr.mono (by omega)) (by rfl) g__law_refs k__law_refs i__law_refs rfl (ac (pv' 3) an)) (ac (ecall G__law_paths (hr.mono (by omega)) (by rfl) g__law_paths k__law_paths i__law_paths rfl (ac (pv' 3) an)) an)))
 (sc (sif (tnot (ttr (ecall G__law_same (hr.mono (by omega)) (by rfl) g__law_same k__law_same i__law_same rfl (ac (ecall G_refs_of (hr.mono (by omega)) (by rfl) g_refs_of k_refs_of i_refs_of rfl (ac (pv' 3) an)) (ac (eTy cTuple (by rfl) m_tuple (by rfl) (ac (pv' 4) an)) an)))))
 (s1 (sret cb))
 sn)
 (sc (sif (tnot (ttr (ecall G__law_same (hr.mono (by omega)) (by rfl) g__law_same k__law_same i__law_same rfl (ac (ecall G_dangling (hr.mono (by omega)) (by rfl) g_dangling k_dangling i_dangling rfl (ac (pv' 3) an)) (ac (eTy cTuple (by rfl) m_tuple (by rfl) (ac (lc (own := [("ref", 6)]) rfl nd (iw (pv' 4)) (blkOk_by (by rfl)) (fun _ _ _ _ _ => (gn (by decide) nd rfl (by first | exact .inl rfl | exact .inr rfl))) (fun _ _ _ _ _ => (t1 (tcmp (oNotIn (u65 hr)) (eix (u9 hr) (pv' 6) ci) (pv' 5)))) (fun _ _ _ _ _ => (pv' 6))) an)) an)))))
 (s1 (sret cb))
 sn)
 (sc (sset (by decide) nd rfl (by first | exact .inl rfl | exact .inr rfl) (eife (tcmp (oNeX (u65 hr)) (pv' 5) (el an)) (ecall G__law_pick (hr.mono (by omega)) (by rfl) g__law_pick k__law_pick i__law_pick rfl (ac (pv' 1) (ac (pv' 5) an))) (et (ac cs an))))
 (sc (sif (tnot (ttr (ecall G__law_same (hr.mono (by omega)) (by rfl) g__law_same k__law_same i__law_same rfl (ac (ecall G_refs_to (hr.mono (by omega)) (by rfl) g_refs_to k_refs_to i_refs_to rfl (ac (pv' 3) (ac (pv' 7) an))) (ac (eTy cTuple (by rfl) m_tuple (by rfl) (ac (lc (own := [("ref", 6)]) rfl nd (iw (pv' 4)) (blkOk_by (by rfl)) (fun _ _ _ _ _ => (gn (by decide) nd rfl (by first | exact .inl rfl | exact .inr rfl))) (fun _ _ _ _ _ => (t1 (tcmp (oEqX (u65 hr)) (esl (eix (u9 hr) (pv' 6) ci) pn (pp (eB cLen (by rfl) m_len (by rfl) (ac (pv' 7) an)))) (pv' 7)))) (fun _ _ _ _ _ => (pv' 6))) an)) an)))))
 (s1 (sret cb))
 sn)
 (sc (slc (own := [("own", 9)]) (by decide) rfl nd rfl rfl (sw_true rfl rfl rfl rfl) (iw (pv' 5)) (blkOk_by (by rfl)) (fun _ _ _ _ _ => (gn (by decide) nd rfl (by first | exact .inl rfl | exact .inr rfl))) (fun _ _ _ _ _ => tn) (fun _ _ _ _ _ => (ecall G__law_far (hr.mono (by omega)) (by rfl) g__law_far k__law_far i__law_far rfl (ac (pv' 4) (ac (pv' 9) an)))))
 (sc (slc (own := [("far", 10)]) (by decide) rfl nd rfl rfl (sw_true rfl rfl rfl rfl) (iw (pv' 8)) (blkOk_by (by rfl)) (fun _ _ _ _ _ => (gn (by decide) nd rfl (by first | exact .inl rfl | exact .inr rfl))) (fun _ _ _ _ _ => (t1 (tcmp oIsNot (pv' 10) cn))) (fun _ _ _ _ _ => (pv' 10)))
 (sc (sset (by decide) nd rfl (by first | exact .inl rfl | exact .inr rfl) (ecall G_ref_ring (hr.mono (by omega)) (by rfl) g_ref_ring k_ref_ring i_ref_ring rfl (ac (pv' 3) an)))
 (sc (sif (tcmp (oEqX (u65 hr)) (pv' 8) (el an))
 (sc (sif (tcmp oIsNot (pv' 11) cn)
 (s1 (sret cb))
 sn)
 (s1 scnt))
 sn)
 (sc (sif (twp (wor (tnot (ttr (eisi .tuple (by rfl) m_isinstance (by rfl) m_tuple (by rfl) (pv' 11)))) (wor1 (tcmp (oNeX (u65 hr)) (eB cLen (by rfl) m_len (by rfl) (ac (pv' 11) an)) (eB (cMin rfl) (by rfl) m_min (by rfl) (ac (pv' 8) an))))))
 (s1 (sret cb))
 sn)
 (sc (sset (by decide) nd rfl (by first | exact .inl rfl | exact .inr rfl) (lc (own := [("own", 9), ("place", 13), ("goal", 14)]) rfl nd (iw (pv' 4)) (blkOk_by (by rfl)) (fun _ _ _ _ _ => (gt rfl (gsc (gn (by decide) nd rfl (by first | exact .inl rfl | exact .inr rfl)) (gsc (gn (by decide) nd rfl (by first | exact .inl rfl | exact .inr rfl)) (gsc (gn (by decide) nd rfl (by first | exact .inl rfl | exact .inr rfl)) gsn))))) (fun _ _ _ _ _ => tn) (fun _ _ _ _ _ => (et (ac (pv' 9) (ac (pv' 14) an))))))
 (s1 (sif (tcmp (oNeX (u65 hr)) (lc (own := [("k", 15)]) rfl nd (ir1 (by rfl) m_range (ac (eB cLen (by rfl) m_len (by rfl) (ac (pv' 11) an)) an)) (blkOk_by (by rfl)) (fun _ _ _ _ _ => (gn (by decide) nd rfl (by first | exact .inl rfl | exact .inr rfl))) (fun _ _ _ _ _ => (t1 (tcmp (oNotIn (u65 hr)) (et (ac (eix (u9 hr) (pv' 11) (e2 oSub (pv' 15) ci)) (ac (eix (u9 hr) (pv' 11) (pv' 15)) an))) (pv' 12)))) (fun _ _ _ _ _ => (pv' 15))) (el an))
 (s1 (sret cb))
 sn)))))))))))))))
 (s1 (sret cb)))))
  exact h
end
theorem all_mk {l : PySem.W.OpenLaw} {w : World} {K : PySem.W.Frag} {h : Heap} {mg : Str → Option Value} (X : K.In h) (G : h.Ns mainGlobals mg) {fa f1 f2 f3 f4 f5 f6 f7 f8 f9 f10 f11 f12 f13 f14 f15 f16 f17 f18 f19 f20 f21 f22 f23 f24 : Addr} {od1 an1 od2 an2 od3 an3 od4 an4 od5 an5 od6 an6 od7 an7 od8 an8 od9 an9 od10 an10 od11 an11 od12 an12 od13 an13 od14 an14 od15 an15 od16 an16 od17 an17 od18 an18 od19 an19 od20 an20 od21 an21 od22 an22 od23 an23 od24 an24 : Option Addr} {sl1 sl2 sl3 sl4 sl5 sl6 sl7 sl8 sl9 sl10 sl11 sl12 sl13 sl14 sl15 sl16 sl17 sl18 sl19 sl20 sl21 sl22 sl23 sl24 : Array (Option Value)} {oc1 kV1 dc1 pm1 cd1 ct1 oc2 kV2 dc2 pm2 cd2 ct2 oc3 kV3 dc3 pm3 cd3 ct3 oc4 kV4 dc4 pm4 cd4 ct4 oc5 kV5 dc5 pm5 cd5 ct5 oc6 kV6 dc6 pm6 cd6 ct6 oc7 kV7 dc7 pm7 cd7 ct7 oc8 kV8 dc8 pm8 cd8 ct8 oc9 kV9 dc9 pm9 cd9 ct9 oc10 kV10 dc10 pm10 cd10 ct10 oc11 kV11 dc11 pm11 cd11 ct11 oc12 kV12 dc12 pm12 cd12 ct12 oc13 kV13 dc13 pm13 cd13 ct13 oc14 kV14 dc14 pm14 cd14 ct14 oc15 kV15 dc15 pm15 cd15 ct15 oc16 kV16 dc16 pm16 cd16 ct16 oc17 kV17 dc17 pm17 cd17 ct17 oc18 kV18 dc18 pm18 cd18 ct18 oc19 kV19 dc19 pm19 cd19 ct19 oc20 kV20 dc20 pm20 cd20 ct20 oc21 kV21 dc21 pm21 cd21 ct21 oc22 kV22 dc22 pm22 cd22 ct22 oc23 kV23 dc23 pm23 cd23 ct23 oc24 kV24 dc24 pm24 cd24 ct24 : Value}   (hfa : mg "law" = some (.ref fa))
  (a1 : PySem.W.nsIn K mainGlobals "_law_next" = some (some (.ref f1))) (l1 : K.lookup f1 = some ⟨oc1, od1, .func (PySem.W.fnOf "_law_next" "_law_next" (defArgs s__law_next) (defBody s__law_next) (defScope s__law_next) .none kV1 dc1 pm1 an1 cd1 ct1), sl1⟩) (c1 : PySem.W.codeIn K cd1 "_law_next" = true) (k1 : PySem.W.keepIn K (.ref f1) = true)
  (a2 : PySem.W.nsIn K mainGlobals "_law_pick" = some (some (.ref f2))) (l2 : K.lookup f2 = some ⟨oc2, od2, .func (PySem.W.fnOf "_law_pick" "_law_pick" (defArgs s__law_pick) (defBody s__law_pick) (defScope s__law_pick) .none kV2 dc2 pm2 an2 cd2 ct2), sl2⟩) (c2 : PySem.W.codeIn K cd2 "_law_pick" = true) (k2 : PySem.W.keepIn K (.ref f2) = true)
  (a3 : PySem.W.nsIn K mainGlobals "_law_body" = some (some (.ref f3))) (l3 : K.lookup f3 = some ⟨oc3, od3, .func (PySem.W.fnOf "_law_body" "_law_body" (defArgs s__law_body) (defBody s__law_body) (defScope s__law_body) .none kV3 dc3 pm3 an3 cd3 ct3), sl3⟩) (c3 : PySem.W.codeIn K cd3 "_law_body" = true) (k3 : PySem.W.keepIn K (.ref f3) = true)
  (a4 : PySem.W.nsIn K mainGlobals "parts_of" = some (some (.ref f4))) (l4 : K.lookup f4 = some ⟨oc4, od4, .func (PySem.W.fnOf "parts_of" "parts_of" (defArgs s_parts_of) (defBody s_parts_of) (defScope s_parts_of) .none kV4 dc4 pm4 an4 cd4 ct4), sl4⟩) (c4 : PySem.W.codeIn K cd4 "parts_of" = true) (k4 : PySem.W.keepIn K (.ref f4) = true)
  (a5 : PySem.W.nsIn K mainGlobals "is_label" = some (some (.ref f5))) (l5 : K.lookup f5 = some ⟨oc5, od5, .func (PySem.W.fnOf "is_label" "is_label" (defArgs s_is_label) (defBody s_is_label) (defScope s_is_label) .none kV5 dc5 pm5 an5 cd5 ct5), sl5⟩) (c5 : PySem.W.codeIn K cd5 "is_label" = true) (k5 : PySem.W.keepIn K (.ref f5) = true)
  (a6 : PySem.W.nsIn K mainGlobals "parse_path" = some (some (.ref f6))) (l6 : K.lookup f6 = some ⟨oc6, od6, .func (PySem.W.fnOf "parse_path" "parse_path" (defArgs s_parse_path) (defBody s_parse_path) (defScope s_parse_path) .none kV6 dc6 pm6 an6 cd6 ct6), sl6⟩) (c6 : PySem.W.codeIn K cd6 "parse_path" = true) (k6 : PySem.W.keepIn K (.ref f6) = true)
  (a7 : PySem.W.nsIn K mainGlobals "ref_of" = some (some (.ref f7))) (l7 : K.lookup f7 = some ⟨oc7, od7, .func (PySem.W.fnOf "ref_of" "ref_of" (defArgs s_ref_of) (defBody s_ref_of) (defScope s_ref_of) .none kV7 dc7 pm7 an7 cd7 ct7), sl7⟩) (c7 : PySem.W.codeIn K cd7 "ref_of" = true) (k7 : PySem.W.keepIn K (.ref f7) = true)
  (a8 : PySem.W.nsIn K mainGlobals "all_paths" = some (some (.ref f8))) (l8 : K.lookup f8 = some ⟨oc8, od8, .func (PySem.W.fnOf "all_paths" "all_paths" (defArgs s_all_paths) (defBody s_all_paths) (defScope s_all_paths) .none kV8 dc8 pm8 an8 cd8 ct8), sl8⟩) (c8 : PySem.W.codeIn K cd8 "all_paths" = true) (k8 : PySem.W.keepIn K (.ref f8) = true)
  (a9 : PySem.W.nsIn K mainGlobals "node_at" = some (some (.ref f9))) (l9 : K.lookup f9 = some ⟨oc9, od9, .func (PySem.W.fnOf "node_at" "node_at" (defArgs s_node_at) (defBody s_node_at) (defScope s_node_at) .none kV9 dc9 pm9 an9 cd9 ct9), sl9⟩) (c9 : PySem.W.codeIn K cd9 "node_at" = true) (k9 : PySem.W.keepIn K (.ref f9) = true)
  (a10 : PySem.W.nsIn K mainGlobals "refs_of" = some (some (.ref f10))) (l10 : K.lookup f10 = some ⟨oc10, od10, .func (PySem.W.fnOf "refs_of" "refs_of" (defArgs s_refs_of) (defBody s_refs_of) (defScope s_refs_of) .none kV10 dc10 pm10 an10 cd10 ct10), sl10⟩) (c10 : PySem.W.codeIn K cd10 "refs_of" = true) (k10 : PySem.W.keepIn K (.ref f10) = true)
  (a11 : PySem.W.nsIn K mainGlobals "ring_from" = some (some (.ref f11))) (l11 : K.lookup f11 = some ⟨oc11, od11, .func (PySem.W.fnOf "ring_from" "ring_from" (defArgs s_ring_from) (defBody s_ring_from) (defScope s_ring_from) .none kV11 dc11 pm11 an11 cd11 ct11), sl11⟩) (c11 : PySem.W.codeIn K cd11 "ring_from" = true) (k11 : PySem.W.keepIn K (.ref f11) = true)
  (a12 : PySem.W.nsIn K mainGlobals "ref_ring" = some (some (.ref f12))) (l12 : K.lookup f12 = some ⟨oc12, od12, .func (PySem.W.fnOf "ref_ring" "ref_ring" (defArgs s_ref_ring) (defBody s_ref_ring) (defScope s_ref_ring) .none kV12 dc12 pm12 an12 cd12 ct12), sl12⟩) (c12 : PySem.W.codeIn K cd12 "ref_ring" = true) (k12 : PySem.W.keepIn K (.ref f12) = true)
  (a13 : PySem.W.nsIn K mainGlobals "_law_draws" = some (some (.ref f13))) (l13 : K.lookup f13 = some ⟨oc13, od13, .func (PySem.W.fnOf "_law_draws" "_law_draws" (defArgs s__law_draws) (defBody s__law_draws) (defScope s__law_draws) .none kV13 dc13 pm13 an13 cd13 ct13), sl13⟩) (c13 : PySem.W.codeIn K cd13 "_law_draws" = true) (k13 : PySem.W.keepIn K (.ref f13) = true)
  (a14 : PySem.W.nsIn K mainGlobals "_law_words" = some (some (.ref f14))) (l14 : K.lookup f14 = some ⟨oc14, od14, .func (PySem.W.fnOf "_law_words" "_law_words" (defArgs s__law_words) (defBody s__law_words) (defScope s__law_words) .none kV14 dc14 pm14 an14 cd14 ct14), sl14⟩) (c14 : PySem.W.codeIn K cd14 "_law_words" = true) (k14 : PySem.W.keepIn K (.ref f14) = true)
  (a15 : PySem.W.nsIn K mainGlobals "_law_paths" = some (some (.ref f15))) (l15 : K.lookup f15 = some ⟨oc15, od15, .func (PySem.W.fnOf "_law_paths" "_law_paths" (defArgs s__law_paths) (defBody s__law_paths) (defScope s__law_paths) .none kV15 dc15 pm15 an15 cd15 ct15), sl15⟩) (c15 : PySem.W.codeIn K cd15 "_law_paths" = true) (k15 : PySem.W.keepIn K (.ref f15) = true)
  (a16 : PySem.W.nsIn K mainGlobals "_law_node" = some (some (.ref f16))) (l16 : K.lookup f16 = some ⟨oc16, od16, .func (PySem.W.fnOf "_law_node" "_law_node" (defArgs s__law_node) (defBody s__law_node) (defScope s__law_node) .none kV16 dc16 pm16 an16 cd16 ct16), sl16⟩) (c16 : PySem.W.codeIn K cd16 "_law_node" = true) (k16 : PySem.W.keepIn K (.ref f16) = true)
  (a17 : PySem.W.nsIn K mainGlobals "_law_goal_of" = some (some (.ref f17))) (l17 : K.lookup f17 = some ⟨oc17, od17, .func (PySem.W.fnOf "_law_goal_of" "_law_goal_of" (defArgs s__law_goal_of) (defBody s__law_goal_of) (defScope s__law_goal_of) .none kV17 dc17 pm17 an17 cd17 ct17), sl17⟩) (c17 : PySem.W.codeIn K cd17 "_law_goal_of" = true) (k17 : PySem.W.keepIn K (.ref f17) = true)
  (a18 : PySem.W.nsIn K mainGlobals "_law_refs" = some (some (.ref f18))) (l18 : K.lookup f18 = some ⟨oc18, od18, .func (PySem.W.fnOf "_law_refs" "_law_refs" (defArgs s__law_refs) (defBody s__law_refs) (defScope s__law_refs) .none kV18 dc18 pm18 an18 cd18 ct18), sl18⟩) (c18 : PySem.W.codeIn K cd18 "_law_refs" = true) (k18 : PySem.W.keepIn K (.ref f18) = true)
  (a19 : PySem.W.nsIn K mainGlobals "_law_same" = some (some (.ref f19))) (l19 : K.lookup f19 = some ⟨oc19, od19, .func (PySem.W.fnOf "_law_same" "_law_same" (defArgs s__law_same) (defBody s__law_same) (defScope s__law_same) .none kV19 dc19 pm19 an19 cd19 ct19), sl19⟩) (c19 : PySem.W.codeIn K cd19 "_law_same" = true) (k19 : PySem.W.keepIn K (.ref f19) = true)
  (a20 : PySem.W.nsIn K mainGlobals "dangling" = some (some (.ref f20))) (l20 : K.lookup f20 = some ⟨oc20, od20, .func (PySem.W.fnOf "dangling" "dangling" (defArgs s_dangling) (defBody s_dangling) (defScope s_dangling) .none kV20 dc20 pm20 an20 cd20 ct20), sl20⟩) (c20 : PySem.W.codeIn K cd20 "dangling" = true) (k20 : PySem.W.keepIn K (.ref f20) = true)
  (a21 : PySem.W.nsIn K mainGlobals "is_within" = some (some (.ref f21))) (l21 : K.lookup f21 = some ⟨oc21, od21, .func (PySem.W.fnOf "is_within" "is_within" (defArgs s_is_within) (defBody s_is_within) (defScope s_is_within) .none kV21 dc21 pm21 an21 cd21 ct21), sl21⟩) (c21 : PySem.W.codeIn K cd21 "is_within" = true) (k21 : PySem.W.keepIn K (.ref f21) = true)
  (a22 : PySem.W.nsIn K mainGlobals "refs_to" = some (some (.ref f22))) (l22 : K.lookup f22 = some ⟨oc22, od22, .func (PySem.W.fnOf "refs_to" "refs_to" (defArgs s_refs_to) (defBody s_refs_to) (defScope s_refs_to) .none kV22 dc22 pm22 an22 cd22 ct22), sl22⟩) (c22 : PySem.W.codeIn K cd22 "refs_to" = true) (k22 : PySem.W.keepIn K (.ref f22) = true)
  (a23 : PySem.W.nsIn K mainGlobals "_law_far" = some (some (.ref f23))) (l23 : K.lookup f23 = some ⟨oc23, od23, .func (PySem.W.fnOf "_law_far" "_law_far" (defArgs s__law_far) (defBody s__law_far) (defScope s__law_far) .none kV23 dc23 pm23 an23 cd23 ct23), sl23⟩) (c23 : PySem.W.codeIn K cd23 "_law_far" = true) (k23 : PySem.W.keepIn K (.ref f23) = true)
  (a24 : PySem.W.nsIn K mainGlobals "law" = some (some (.ref f24))) (l24 : K.lookup f24 = some ⟨oc24, od24, .func (PySem.W.fnOf "law" "law" (defArgs s_law) (defBody s_law) (defScope s_law) .none kV24 dc24 pm24 an24 cd24 ct24), sl24⟩) (c24 : PySem.W.codeIn K cd24 "law" = true) (k24 : PySem.W.keepIn K (.ref f24) = true)
  (z1 : PySem.W.nsIn K mainGlobals "len" = some none)
  (z2 : PySem.W.nsIn K mainGlobals "int" = some none)
  (z3 : PySem.W.nsIn K mainGlobals "tuple" = some none)
  (z4 : PySem.W.nsIn K mainGlobals "range" = some none)
  (z5 : PySem.W.nsIn K mainGlobals "isinstance" = some none)
  (z6 : PySem.W.nsIn K mainGlobals "str" = some none)
  (z7 : PySem.W.nsIn K mainGlobals "all" = some none)
  (z8 : PySem.W.nsIn K mainGlobals "abs" = some none)
  (z9 : PySem.W.nsIn K mainGlobals "bool" = some none)
  (z10 : PySem.W.nsIn K mainGlobals "min" = some none)
  {uq_DIGITS : Value} (aq_DIGITS : PySem.W.nsIn K mainGlobals "DIGITS" = some (some uq_DIGITS)) (rq_DIGITS : RelV (.str "0123456789") uq_DIGITS)
  {uq_LETTERS : Value} (aq_LETTERS : PySem.W.nsIn K mainGlobals "LETTERS" = some (some uq_LETTERS)) (rq_LETTERS : RelV (.str "abcdefghijklmnopqrstuvwxyz") uq_LETTERS) :
  ∃ fd : FuncData, (∀ (s : Shared) (v : Value), BindsTo s fd ⟨[v], []⟩ [("script", v)]) ∧ ∀ base : Heap, K.In base → base.Ns mainGlobals mg → FnOk l.prog w K mg base CX0 8 fa fd ["script"] (spD ⟨K, w⟩ 1 f_law) := by
  have e := hfa.symm.trans (PySem.W.mg_of X G a24)
  cases e
  have F1 := fun_mk (st := s__law_next) l1 c1 k1
  have b1 := F1.binds (ps := ["w", "many"]) fun _ _ _ _ _ _ us hl => match us, hl with | [_, _], _ => rfl
  have g1 := PySem.W.mg_of X G a1
  have F2 := fun_mk (st := s__law_pick) l2 c2 k2
  have b2 := F2.binds (ps := ["w", "rows"]) fun _ _ _ _ _ _ us hl => match us, hl with | [_, _], _ => rfl
  have g2 := PySem.W.mg_of X G a2
  have F3 := fun_mk (st := s__law_body) l3 c3 k3
  have b3 := F3.binds (ps := ["w", "deep", "words"]) fun _ _ _ _ _ _ us hl => match us, hl with | [_, _, _], _ => rfl
  have g3 := PySem.W.mg_of X G a3
  have F4 := fun_mk (st := s_parts_of) l4 c4 k4
  have b4 := F4.binds (ps := ["text"]) fun _ _ _ _ _ _ us hl => match us, hl with | [_], _ => rfl
  have g4 := PySem.W.mg_of X G a4
  have F5 := fun_mk (st := s_is_label) l5 c5 k5
  have b5 := F5.binds (ps := ["thing"]) fun _ _ _ _ _ _ us hl => match us, hl with | [_], _ => rfl
  have g5 := PySem.W.mg_of X G a5
  have F6 := fun_mk (st := s_parse_path) l6 c6 k6
  have b6 := F6.binds (ps := ["text"]) fun _ _ _ _ _ _ us hl => match us, hl with | [_], _ => rfl
  have g6 := PySem.W.mg_of X G a6
  have F7 := fun_mk (st := s_ref_of) l7 c7 k7
  have b7 := F7.binds (ps := ["word"]) fun _ _ _ _ _ _ us hl => match us, hl with | [_], _ => rfl
  have g7 := PySem.W.mg_of X G a7
  have F8 := fun_mk (st := s_all_paths) l8 c8 k8
  have b8 := F8.binds (ps := ["body"]) fun _ _ _ _ _ _ us hl => match us, hl with | [_], _ => rfl
  have g8 := PySem.W.mg_of X G a8
  have F9 := fun_mk (st := s_node_at) l9 c9 k9
  have b9 := F9.binds (ps := ["body", "path"]) fun _ _ _ _ _ _ us hl => match us, hl with | [_, _], _ => rfl
  have g9 := PySem.W.mg_of X G a9
  have F10 := fun_mk (st := s_refs_of) l10 c10 k10
  have b10 := F10.binds (ps := ["body"]) fun _ _ _ _ _ _ us hl => match us, hl with | [_], _ => rfl
  have g10 := PySem.W.mg_of X G a10
  have F11 := fun_mk (st := s_ring_from) l11 c11 k11
  have b11 := F11.binds (ps := ["refs", "first"]) fun _ _ _ _ _ _ us hl => match us, hl with | [_, _], _ => rfl
  have g11 := PySem.W.mg_of X G a11
  have F12 := fun_mk (st := s_ref_ring) l12 c12 k12
  have b12 := F12.binds (ps := ["body"]) fun _ _ _ _ _ _ us hl => match us, hl with | [_], _ => rfl
  have g12 := PySem.W.mg_of X G a12
  have F13 := fun_mk (st := s__law_draws) l13 c13 k13
  have b13 := F13.binds (ps := ["script", "many"]) fun _ _ _ _ _ _ us hl => match us, hl with | [_, _], _ => rfl
  have g13 := PySem.W.mg_of X G a13
  have F14 := fun_mk (st := s__law_words) l14 c14 k14
  have b14 := F14.binds (ps := []) fun _ _ _ _ _ _ us hl => match us, hl with | [], _ => rfl
  have g14 := PySem.W.mg_of X G a14
  have F15 := fun_mk (st := s__law_paths) l15 c15 k15
  have b15 := F15.binds (ps := ["body"]) fun _ _ _ _ _ _ us hl => match us, hl with | [_], _ => rfl
  have g15 := PySem.W.mg_of X G a15
  have F16 := fun_mk (st := s__law_node) l16 c16 k16
  have b16 := F16.binds (ps := ["body", "path"]) fun _ _ _ _ _ _ us hl => match us, hl with | [_, _], _ => rfl
  have g16 := PySem.W.mg_of X G a16
  have F17 := fun_mk (st := s__law_goal_of) l17 c17 k17
  have b17 := F17.binds (ps := ["word"]) fun _ _ _ _ _ _ us hl => match us, hl with | [_], _ => rfl
  have g17 := PySem.W.mg_of X G a17
  have F18 := fun_mk (st := s__law_refs) l18 c18 k18
  have b18 := F18.binds (ps := ["body"]) fun _ _ _ _ _ _ us hl => match us, hl with | [_], _ => rfl
  have g18 := PySem.W.mg_of X G a18
  have F19 := fun_mk (st := s__law_same) l19 c19 k19
  have b19 := F19.binds (ps := ["seen", "due"]) fun _ _ _ _ _ _ us hl => match us, hl with | [_, _], _ => rfl
  have g19 := PySem.W.mg_of X G a19
  have F20 := fun_mk (st := s_dangling) l20 c20 k20
  have b20 := F20.binds (ps := ["body"]) fun _ _ _ _ _ _ us hl => match us, hl with | [_], _ => rfl
  have g20 := PySem.W.mg_of X G a20
  have F21 := fun_mk (st := s_is_within) l21 c21 k21
  have b21 := F21.binds (ps := ["path", "other"]) fun _ _ _ _ _ _ us hl => match us, hl with | [_, _], _ => rfl
  have g21 := PySem.W.mg_of X G a21
  have F22 := fun_mk (st := s_refs_to) l22 c22 k22
  have b22 := F22.binds (ps := ["body", "path"]) fun _ _ _ _ _ _ us hl => match us, hl with | [_, _], _ => rfl
  have g22 := PySem.W.mg_of X G a22
  have F23 := fun_mk (st := s__law_far) l23 c23 k23
  have b23 := F23.binds (ps := ["refs", "path"]) fun _ _ _ _ _ _ us hl => match us, hl with | [_, _], _ => rfl
  have g23 := PySem.W.mg_of X G a23
  have F24 := fun_mk (st := s_law) l24 c24 k24
  have b24 := F24.binds (ps := ["script"]) fun _ _ _ _ _ _ us hl => match us, hl with | [_], _ => rfl
  have g24 := PySem.W.mg_of X G a24
  have y1 := PySem.W.mg_none_of X G z1
  have y2 := PySem.W.mg_none_of X G z2
  have y3 := PySem.W.mg_none_of X G z3
  have y4 := PySem.W.mg_none_of X G z4
  have y5 := PySem.W.mg_none_of X G z5
  have y6 := PySem.W.mg_none_of X G z6
  have y7 := PySem.W.mg_none_of X G z7
  have y8 := PySem.W.mg_none_of X G z8
  have y9 := PySem.W.mg_none_of X G z9
  have y10 := PySem.W.mg_none_of X G z10
  have q_DIGITS : ∃ u, mg "DIGITS" = some u ∧ RelV (.str "0123456789") u := ⟨_, PySem.W.mg_of X G aq_DIGITS, rq_DIGITS⟩
  have q_LETTERS : ∃ u, mg "LETTERS" = some u ∧ RelV (.str "abcdefghijklmnopqrstuvwxyz") u := ⟨_, PySem.W.mg_of X G aq_LETTERS, rq_LETTERS⟩
  refine ⟨PySem.W.fnOf "law" "law" (defArgs s_law) (defBody s_law) (defScope s_law) .none kV24 dc24 pm24 an24 cd24 ct24, fun s v => .of_eq rfl, fun base _ _ => ?_⟩
  have G1 := ok__law_next (P := l.prog) (w := w) (mg := mg) (base := base) F1 y1 y2
  have G2 := ok__law_pick (P := l.prog) (w := w) (mg := mg) (base := base) F2 G1 g1 F1.kp b1 y1
  have G3 := ok__law_body (P := l.prog) (w := w) (mg := mg) (base := base) F3 g3 b3 G1 g1 F1.kp b1 G2 g2 F2.kp b2 y3 y4 5
  have G4 := ok_parts_of (P := l.prog) (w := w) (mg := mg) (base := base) F4 y1 q_DIGITS
  have G5 := ok_is_label (P := l.prog) (w := w) (mg := mg) (base := base) F5 G4 g4 F4.kp b4 y5 y6 y1 q_LETTERS
  have G6 := ok_parse_path (P := l.prog) (w := w) (mg := mg) (base := base) F6 G5 g5 F5.kp b5 y3 y7
  have G7 := ok_ref_of (P := l.prog) (w := w) (mg := mg) (base := base) F7 G6 g6 F6.kp b6
  have G8 := ok_all_paths (P := l.prog) (w := w) (mg := mg) (base := base) F8 g8 b8 y3 5
  have G9 := ok_node_at (P := l.prog) (w := w) (mg := mg) (base := base) F9 
  have G10 := ok_refs_of (P := l.prog) (w := w) (mg := mg) (base := base) F10 G8 g8 F8.kp b8 G9 g9 F9.kp b9 G7 g7 F7.kp b7 y4 y1 y3
  have G11 := ok_ring_from (P := l.prog) (w := w) (mg := mg) (base := base) F11 y1
  have G12 := ok_ref_ring (P := l.prog) (w := w) (mg := mg) (base := base) F12 G10 g10 F10.kp b10 G8 g8 F8.kp b8 G11 g11 F11.kp b11 y1
  have G13 := ok__law_draws (P := l.prog) (w := w) (mg := mg) (base := base) F13 y4 y1 y8 y2
  have G14 := ok__law_words (P := l.prog) (w := w) (mg := mg) (base := base) F14 
  have G15 := ok__law_paths (P := l.prog) (w := w) (mg := mg) (base := base) F15 g15 b15 5
  have G16 := ok__law_node (P := l.prog) (w := w) (mg := mg) (base := base) F16 
  have G17 := ok__law_goal_of (P := l.prog) (w := w) (mg := mg) (base := base) F17 y1 y3
  have G18 := ok__law_refs (P := l.prog) (w := w) (mg := mg) (base := base) F18 G15 g15 F15.kp b15 G16 g16 F16.kp b16 G17 g17 F17.kp b17 y4 y1
  have G19 := ok__law_same (P := l.prog) (w := w) (mg := mg) (base := base) F19 g19 b19 y5 y3 y1 y4 y6 y9 y2 6
  have G20 := ok_dangling (P := l.prog) (w := w) (mg := mg) (base := base) F20 G10 g10 F10.kp b10 G9 g9 F9.kp b9 y3
  have G21 := ok_is_within (P := l.prog) (w := w) (mg := mg) (base := base) F21 y1
  have G22 := ok_refs_to (P := l.prog) (w := w) (mg := mg) (base := base) F22 G10 g10 F10.kp b10 G21 g21 F21.kp b21 y3
  have G23 := ok__law_far (P := l.prog) (w := w) (mg := mg) (base := base) F23 y4
  have G24 := ok_law (P := l.prog) (w := w) (mg := mg) (base := base) F24 G13 g13 F13.kp b13 G3 g3 F3.kp b3 G14 g14 F14.kp b14 G15 g15 F15.kp b15 G18 g18 F18.kp b18 G19 g19 F19.kp b19 G10 g10 F10.kp b10 G20 g20 F20.kp b20 G2 g2 F2.kp b2 G22 g22 F22.kp b22 G23 g23 F23.kp b23 G12 g12 F12.kp b12 y4 y3 y1 y10 y5
  exact G24
end Lawk21
set_option maxHeartbeats 1600000
namespace Lawk21
open PySem L2 DL TL
abbrev YBody := (List Nd)
abbrev yBody : YBody → D := (eT eNd)
abbrev YPath := (List OkS)
abbrev yPath : YPath → D := (eT eS)
abbrev YRef := (YPath × Nat × YPath)
abbrev yRef : YRef → D := (e3 yPath eN yPath)
abbrev LABS : List OkS := [okS "1", okS "2", okS "2a", okS "3"]
abbrev WDS : List OkS := [okS "the", okS "@1", okS "@2", okS "@2a", okS "@1.2", okS "@2.1", okS "@3", okS "@1.1", okS "@2a.1", okS "@9", okS "@2.2a.1", okS "@x", okS "@", okS "@1.", okS "of", okS "@3.2"]
abbrev PL (l : OkS) (w : List OkS) : Prop := l ∈ LABS ∧ w.length ≤ 3 ∧ ∀ x ∈ w, x ∈ WDS
abbrev LV : Nat := 3
theorem wdsT : ∀ w ∈ WDS, 0 < slen w ∧ slen w ≤ 10 := by decide +kernel
/-- a node of a body, with its words -/
theorem node_P {n : Nat} {b : List Nd} {p : List OkS} (hW : WfB PL n b) (hp : p ∈ prB b) : (nodeP b p).isNone = false ∧ ((nodeP b p).getD nd0).words.length ≤ 3 ∧ ∀ x ∈ ((nodeP b p).getD nd0).words, x ∈ WDS := by
  obtain ⟨x, h1, h2, _⟩ := nodeP_mem (o := none) hW hp
  have h1 : nodeP b p = some x := h1
  rw [h1]
  exact ⟨rfl, h2.2.1, h2.2.2⟩
abbrev lnk (refs : List (List OkS × Nat × List OkS)) : List (List OkS × List OkS) := refs.map fun r => (r.1, r.2.2)
abbrev Mt := List (List OkS × Bool)
structure BfN (refs : List (List OkS × Nat × List OkS)) (met : Mt) (rows : List (List (List OkS))) : Prop where
  nd : (hkeys met).Nodup
  g : ∀ x ∈ hkeys met, x ∈ refs.map fun r => r.2.2
  n : rows.length = met.length + 1
theorem hkl {κ α : Type} (kvs : List (κ × α)) : (hkeys kvs).length = kvs.length := by unfold hkeys; rw [List.length_map]
theorem BfN.le {refs : List (List OkS × Nat × List OkS)} {met : Mt} {rows : List (List (List OkS))} (h : BfN refs met rows) : rows.length ≤ refs.length + 1 ∧ met.length ≤ refs.length := by
  have := nodup_sub_len h.nd h.g
  rw [hkl, List.length_map] at this
  have := h.n
  omega
theorem bfN_0 {refs : List (List OkS × Nat × List OkS)} {f : List (List OkS)} : BfN refs [] [f] := ⟨.nil, fun x hx => by simp [hkeys] at hx, rfl⟩
theorem hput_new {κ α : Type} [DecidableEq κ] {kvs : List (κ × α)} {x : κ} {v : α} (h : x ∉ hkeys kvs) : hput kvs x v = kvs ++ [(x, v)] := by
  unfold hput
  rw [if_neg]
  intro e
  obtain ⟨p, hp, e⟩ := List.any_eq_true.mp e
  exact h (List.mem_map.mpr ⟨p, hp, of_decide_eq_true e⟩)
theorem bfN_put {refs : List (List OkS × Nat × List OkS)} {met : Mt} {rows : List (List (List OkS))} {x : List OkS × Nat × List OkS} {r : List (List OkS)} (h : BfN refs met rows) (hx : x ∈ refs) (hn : x.2.2 ∉ hkeys met) : BfN refs (hput met x.2.2 true) (rows ++ [r]) := by
  refine ⟨hkeys_nodup h.nd, fun y hy => ?_, ?_⟩
  · rcases hkeys_put.mp hy with z | z
    · rw [z]; exact List.mem_map.mpr ⟨x, hx, rfl⟩
    · exact h.g y z
  · rw [hput_new hn, List.length_append, List.length_append, h.n]; rfl
/-- what the inner loop of the search keeps -/
def RfJ (refs : List (List OkS × Nat × List OkS)) (first : List OkS) (a : Nat) (k : Nat) (met : Mt) (rows : List (List (List OkS))) : Prop := BfJ (lnk refs) first [] ((lnk refs).take k) (hkeys met) rows a ∧ BfN refs met rows
def RfI (refs : List (List OkS × Nat × List OkS)) (first : List OkS) (met : Mt) (rows : List (List (List OkS))) (a : Nat) : Prop := BfI (lnk refs) first [] (hkeys met) rows a ∧ BfN refs met rows
theorem rfI_0 {refs : List (List OkS × Nat × List OkS)} {first : List OkS} : RfI refs first [] [[first]] 0 := ⟨bf_0, bfN_0⟩
theorem take_snoc {α : Type} {L : List α} {k : Nat} {x : α} (h : L[k]? = some x) : L.take (k + 1) = L.take k ++ [x] := by
  rw [List.take_add_one, h]; rfl
theorem lnk_at {refs : List (List OkS × Nat × List OkS)} {k : Nat} {x : List OkS × Nat × List OkS} (h : refs[k]? = some x) : (lnk refs)[k]? = some (x.1, x.2.2) := by
  rw [List.getElem?_map, h]; rfl
abbrev RfS := Mt × List (List (List OkS))
/-- one link is looked at -/
def rfIn (first : List OkS) (a : Nat) (s5 : RfS) (x7 : List OkS × Nat × List OkS) : Ou (Option (List (List OkS))) RfS := (if (decide (x7.1 = ((s5.2.getD a []).getLastD []))) = true then if (decide (x7.2.2 = first)) = true then (.rt (some (s5.2.getD a []))) else if (!decide (x7.2.2 ∈ hkeys s5.1)) = true then Let ((hput s5.1 x7.2.2 true) : Mt) fun met13 => Let ((s5.2 ++ [((s5.2.getD a []) ++ [x7.2.2])]) : (List (List (List OkS)))) fun rows14 => (.nx (met13, rows14)) else (.nx (s5.1, s5.2)) else (.nx (s5.1, s5.2)))
theorem rf_in {refs : List (List OkS × Nat × List OkS)} {first : List OkS} {a k : Nat} {s : RfS} {x : List OkS × Nat × List OkS} (h : RfJ refs first a k s.1 s.2) (hx : refs[k]? = some x) : match rfIn first a s x with
    | .nx s' => RfJ refs first a (k + 1) s'.1 s'.2
    | .bk _ => False
    | .rt v => v = some (s.2.getD a []) ∧ ((s.2.getD a []).getLastD [], first) ∈ lnk refs ∧ Shortest (lnk refs) first [] (s.2.getD a []) ∧ (s.2.getD a []).length ≤ refs.length + 1 := by
  obtain ⟨h1, h2⟩ := h
  have hl := lnk_at hx
  have hm := List.mem_of_getElem? hx
  unfold rfIn
  by_cases c1 : x.1 = (s.2.getD a []).getLastD []
  · rw [if_pos (decide_eq_true c1)]
    by_cases c2 : x.2.2 = first
    · rw [if_pos (decide_eq_true c2)]
      have hE : ((s.2.getD a []).getLastD [], first) ∈ lnk refs := by
        rw [← c1, ← c2]; exact List.mem_map.mpr ⟨x, hm, rfl⟩
      have hf := bf_found h1.b h1.a hE
      exact ⟨rfl, hE, hf.1, by have := h2.le; have := h1.a; omega⟩
    · rw [if_neg (by simpa using c2)]
      by_cases c3 : x.2.2 ∈ hkeys s.1
      · rw [if_neg (by simp [c3])]
        refine ⟨?_, h2⟩
        rw [take_snoc hl]
        exact bfJ_met h1 c2 c3
      · rw [if_pos (by simp [c3])]
        refine ⟨?_, bfN_put h2 hm c3⟩
        rw [take_snoc hl]
        exact bfJ_new h1 (List.mem_of_getElem? hl) c1 c2 fun y hy => hkeys_put.mp hy
  · rw [if_neg (by simpa using c1)]
    refine ⟨?_, h2⟩
    rw [take_snoc hl]
    exact bfJ_skip h1 c1
theorem rf_fold {refs : List (List OkS × Nat × List OkS)} {first : List OkS} {a : Nat} : ∀ (L : List (List OkS × Nat × List OkS)) (k : Nat) (s : RfS), refs.drop k = L → RfJ refs first a k s.1 s.2 → match foldO (rfIn first a) L s with
    | .nx s' => RfJ refs first a (k + L.length) s'.1 s'.2
    | .bk _ => False
    | .rt v => ∃ r, v = some r ∧ Shortest (lnk refs) first [] r ∧ r.length ≤ refs.length + 1
  | [], k, s, _, h => h
  | x :: L, k, s, hd, h => by
    have hx : refs[k]? = some x := by
      have := congrArg (fun l => l[0]?) hd
      simpa using this
    have hd' : refs.drop (k + 1) = L := by
      have := congrArg (List.drop 1) hd
      simpa using this
    unfold foldO
    have q := rf_in h hx
    cases e : rfIn first a s x with
    | rt v => rw [e] at q; exact ⟨_, q.1, q.2.2.1, q.2.2.2⟩
    | bk s' => rw [e] at q; exact q.elim
    | nx s' =>
      rw [e] at q
      have := rf_fold L (k + 1) s' hd' q
      rw [show k + (x :: L).length = k + 1 + L.length by rw [List.length_cons]; omega]
      exact this
abbrev RfW := Mt × List (List (List OkS)) × Nat
/-- one row is looked at -/
def rfOut (refs : List (List OkS × Nat × List OkS)) (first : List OkS) (s2 : RfW) : Ou (Option (List (List OkS))) RfW := seqO (foldO (rfIn first s2.2.2) refs (s2.1, s2.2.1)) Ou.rt fun s5 => Let ((s2.2.2 + 1) : Nat) fun at15 => (.nx (s5.1, s5.2, at15))
theorem rf_out {refs : List (List OkS × Nat × List OkS)} {first : List OkS} {s : RfW} (h : RfI refs first s.1 s.2.1 s.2.2) (hc : s.2.2 < s.2.1.length) : match rfOut refs first s with
    | .nx s' => RfI refs first s'.1 s'.2.1 s'.2.2 ∧ s'.2.2 = s.2.2 + 1
    | .bk _ => False
    | .rt v => ∃ r, v = some r ∧ Shortest (lnk refs) first [] r ∧ r.length ≤ refs.length + 1 := by
  have q := rf_fold (first := first) (a := s.2.2) refs 0 (s.1, s.2.1) rfl ⟨bfJ_0 h.1 hc, h.2⟩
  unfold rfOut
  cases e : foldO (rfIn first s.2.2) refs (s.1, s.2.1) with
  | rt v => rw [e] at q; exact q
  | bk s' => rw [e] at q; exact q.elim
  | nx s' =>
    rw [e] at q
    have q : RfJ refs first s.2.2 (0 + refs.length) s'.1 s'.2 := q
    refine ⟨⟨?_, q.2⟩, rfl⟩
    have h1 := q.1
    rw [Nat.zero_add, show (lnk refs).take refs.length = lnk refs from List.take_of_length_le (by rw [List.length_map]; exact Nat.le_refl _)] at h1
    exact bfJ_end h1
/-! layers -/
structure LtI (refs : List (List OkS × Nat × List OkS)) (pre : List (List OkS)) (s : List (List OkS)) : Prop where
  i : ∀ x, x ∈ s ↔ ∃ y ∈ pre, (y, x) ∈ lnk refs
  n : s.length ≤ refs.countP fun r => decide (r.1 ∈ pre)
theorem ltI_0 {refs : List (List OkS × Nat × List OkS)} : LtI refs [] [] := ⟨fun x => ⟨fun h => by simp at h, fun ⟨y, hy, _⟩ => by simp at hy⟩, Nat.zero_le _⟩
theorem ltI_step {refs : List (List OkS × Nat × List OkS)} {pre s : List (List OkS)} (one : List OkS) (h : LtI refs pre s) : LtI refs (pre ++ [one]) (s ++ (refs.filter fun r => decide (r.1 = one) && !decide (r.2.2 ∈ s)).map fun r => r.2.2) := by
  refine ⟨fun x => ⟨fun hx => ?_, fun ⟨y, hy, hl⟩ => ?_⟩, ?_⟩
  · rcases List.mem_append.mp hx with z | z
    · obtain ⟨y, hy, e⟩ := (h.i x).mp z
      exact ⟨y, by simp [hy], e⟩
    · obtain ⟨r, hr, e⟩ := List.mem_map.mp z
      obtain ⟨hr1, hr2⟩ := List.mem_filter.mp hr
      rw [Bool.and_eq_true] at hr2
      have := of_decide_eq_true hr2.1
      exact ⟨one, by simp, List.mem_map.mpr ⟨r, hr1, by rw [this, e]⟩⟩
  · rcases List.mem_append.mp hy with z | z
    · exact List.mem_append_left _ ((h.i x).mpr ⟨y, z, hl⟩)
    · have hy1 := List.mem_singleton.mp z
      by_cases c : x ∈ s
      · exact List.mem_append_left _ c
      · obtain ⟨r, hr, e⟩ := List.mem_map.mp hl
        injection e with e1 e2
        refine List.mem_append_right _ (List.mem_map.mpr ⟨r, List.mem_filter.mpr ⟨hr, ?_⟩, e2⟩)
        rw [Bool.and_eq_true]
        exact ⟨decide_eq_true (by rw [e1, hy1]), by rw [e2]; simp [c]⟩
  · rw [List.length_append, List.length_map, ← List.countP_eq_length_filter]
    refine Nat.le_trans (Nat.add_le_add_right h.n _) (countP_two (fun r _ hr => ?_) (fun r hr0 hr => ?_))
    · have := of_decide_eq_true hr
      exact decide_eq_true (by simp [this])
    · rw [Bool.and_eq_true] at hr
      have e := of_decide_eq_true hr.1
      refine ⟨decide_eq_true (by simp [e]), decide_eq_false fun hp => ?_⟩
      have : r.2.2 ∈ s := (h.i _).mpr ⟨r.1, hp, List.mem_map.mpr ⟨r, hr0, rfl⟩⟩
      simp [this] at hr
theorem LtI.le {refs : List (List OkS × Nat × List OkS)} {pre s : List (List OkS)} (h : LtI refs pre s) : s.length ≤ refs.length := Nat.le_trans h.n List.countP_le_length
theorem ltI_at {refs : List (List OkS × Nat × List OkS)} {L s : List (List OkS)} {k : Nat} {one : List OkS} (h : LtI refs (L.take k) s) (hk : L[k]? = some one) : LtI refs (L.take (k + 1)) (s ++ (refs.filter fun r => decide (r.1 = one) && !decide (r.2.2 ∈ s)).map fun r => r.2.2) := by
  rw [take_snoc hk]; exact ltI_step one h
theorem ltI_fold {refs : List (List OkS × Nat × List OkS)} (L : List (List OkS)) : LtI refs L (L.foldl (fun s one => s ++ (refs.filter fun r => decide (r.1 = one) && !decide (r.2.2 ∈ s)).map fun r => r.2.2) []) := by
  have := foldl_ix (P := fun k s => LtI refs (L.take k) s) (f := fun s one => s ++ (refs.filter fun r : List OkS × Nat × List OkS => decide (r.1 = one) && !decide (r.2.2 ∈ s)).map fun r => r.2.2) (xs := L) (s := []) (by rw [List.take_zero]; exact ltI_0) fun k s x hx h => ltI_at h hx
  rw [List.take_length] at this
  exact this
theorem same_eqT : ∀ n, f__law_same n = sameF n
  | 0 => rfl
  | n + 1 => by unfold f__law_same sameF; rw [same_eqT n]; rfl
theorem tv__law_same {α : Type} (enc : α → D) (n : Nat) (x y : α) (ho : okV n (enc x)) (h : x = y) : Ev [.fz (enc x), .fz (enc y)] (f__law_same n) .val (.bool true) [.fz (enc x), .fz (enc y)] := same_eqT n ▸ tv_same enc n x y ho h
def T_parts_of (text : OkS) : (OkS × OkS) :=
  Let (wh (fun (s1 : (Nat)) => ((decide (s1 < (slen text))) && (sIn (sAt text s1) (okS "0123456789")))) (fun (s1 : (Nat)) => Let ((s1 + 1) : Nat) fun size5 => size5) (21) 0) fun (s1 : (Nat)) => ((sTake text s1), (sDrop text s1))
theorem tv_parts_of (text : OkS) (hz : slen text ≤ 20) : Ev [.fz (eS text)] f_parts_of .val ((e2 eS eS) (T_parts_of text)) [.fz (eS text)] := by
  have hz1_ := hz
  unfold f_parts_of
  refine ev_run (n := 1) (enc := (e2 eS eS)) (outs := (fun p_ : (OkS × OkS) => [.fz (eS text), .any])) (v := T_parts_of text) ?_
  unfold b_parts_of T_parts_of
  show Sg [.fz (eS text), .any] _ _ _
  refine sg_set (d := (eN 0)) ev_C ?_
  show Sg [.fz (eS text), .fz (eN 0)] _ _ _
  refine sg_while (fun (s1 : (Nat)) => [.fz (eS text), .fz (eN s1)]) (21) (s0 := 0) (cc := fun (s1 : (Nat)) => ((decide (s1 < (slen text))) && (sIn (sAt text s1) (okS "0123456789")))) (step := fun (s1 : (Nat)) => Let ((s1 + 1) : Nat) fun size5 => size5) (fun (s1 : (Nat)) => s1 ≤ slen text) (fun (s1 : (Nat)) => 20 - s1) leT (by exact Nat.zero_le _) (by omega) scT (fun s1 hI2 => (tj_and (p := (decide (s1 < (slen text)))) (q := (sIn (sAt text s1) (okS "0123456789"))) (tj_as [.fz (eS text), .fz (eN s1)] (tj_cmp (p := (decide (s1 < (slen text)))) (da := (eN s1)) (db := (eN (slen text))) (ev_fz (i := 1) rfl) (ev_lenS (s := text) (ev_fz (i := 0) rfl) (by first | exact scQ | exact of_decide_eq_true (by assumption) | exact scT /-1-/)) gLt_nn)) (fun hb4 => (tj_cmp (p := (sIn (sAt text s1) (okS "0123456789"))) (da := (eS (sAt text s1))) (db := (eS (okS "0123456789"))) (ev_ixSN (s := text) (p := s1) (ev_fz (i := 0) rfl) (ev_fz (i := 1) rfl) (by first | exact scQ | exact of_decide_eq_true (by assumption) | exact scT /-2-/) (by first | exact scQ | exact of_decide_eq_true (by assumption) | exact scT /-3-/)) ev_C gIn_txt)))) (fun s1 hI2 hc3 => ?_) (fun s1 hI2 hc3 => by (have hc_ := hc3; rw [Bool.and_eq_true] at hc_; have h1_ := of_decide_eq_true hc_.1; unfold Let; dsimp only; exact ⟨h1_, by omega⟩)) (fun s1 hs1 hI2 hc3 => ?_)
  · show Sg [.fz (eS text), .fz (eN s1)] _ _ _
    refine sg_last ?_
    refine sg_aug (da := (eN s1)) (d := (eN 1)) (dn := eN (s1 + 1)) rfl ev_C gIAdd_nn ?_
    refine sg_gen (fun size5 : Nat => [.fz (eS text), .fz (eN size5)]) (x := (s1 + 1)) fun size5 hsize5 => ?_
    exact sg_passN leT
  show Sg [.fz (eS text), .fz (eN s1)] _ _ _
  refine sg_last ?_
  exact sg_ret (v := ((sTake text s1), (sDrop text s1))) (ev_tup (ea_cons (da := (eS (sTake text s1))) (ev_slSt (s := text) (p := s1) (ev_fz (i := 0) rfl) (ep_part (ev_fz (i := 1) rfl)) (by first | exact scQ | exact of_decide_eq_true (by assumption) | exact scT /-4-/)) (ea_cons (da := (eS (sDrop text s1))) (ev_slSd (s := text) (p := s1) (ev_fz (i := 0) rfl) (ep_part (ev_fz (i := 1) rfl)) (by first | exact scQ | exact of_decide_eq_true (by assumption) | exact scT /-5-/)) ea_nil))) leT roT
theorem parts_len (t : OkS) : slen (T_parts_of t).1 ≤ slen t ∧ slen (T_parts_of t).2 ≤ slen t := ⟨slen_takeN t _, slen_dropN t _⟩
def T_is_label (thing : OkS) : Bool :=
  if (!true) = true then false else Let ((T_parts_of thing) : (OkS × OkS)) fun t2 => if ((decide (t2.1 = (okS ""))) || ((decide ((sAt t2.1 0) = (okS "0"))) || (decide (9 < (slen t2.1))))) = true then false else (decide (((sChars t2.2).filter (fun (sign6 : OkS) => (!sIn sign6 (okS "abcdefghijklmnopqrstuvwxyz")))) = ([] : (List OkS))))
theorem tv_is_label (thing : OkS) (hz : slen thing ≤ 20) : Ev [.fz (eS thing)] f_is_label .val (eB (T_is_label thing)) [.fz (eS thing)] := by
  unfold f_is_label
  refine ev_run (n := 1) (enc := eB) (outs := (fun p_ : Bool => [.fz (eS thing), .any, .any, .any])) (v := T_is_label thing) ?_
  unfold b_is_label T_is_label
  show Sg [.fz (eS thing), .any, .any, .any] _ _ _
  refine sg_if (tj_not (p := true) (tj_b (p := true) (ev_isi (T := .str) (da := (eS thing)) (ev_fz (i := 0) rfl)))) (fun hc1 => ?_) (fun hc1 => ?_)
  · show Sg [.fz (eS thing), .any, .any, .any] _ _ _
    exact sg_ret (v := false) ev_C leT roT
  · show Sg [.fz (eS thing), .any, .any, .any] _ _ _
    refine sg_skip ?_
    refine sg_asg (d := ((e2 eS eS) (T_parts_of thing))) (ev_call (tv_parts_of thing (by first | exact scQ | exact slen_pos (of_decide_eq_false (by assumption)) | (rw [ht2]; have h_ := parts_len thing; omega) | (rw [sChars_len, ht2]; have h_ := parts_len thing; omega) | exact scT /-1-/)) (ea_cons (da := (eS thing)) (ev_fz (i := 0) rfl) ea_nil) rdT) (tg_t (tg_cons tg_n (tg_cons tg_n tg_nil))) ?_
    refine sg_gen (fun t2 : (OkS × OkS) => [.fz (eS thing), .fz (eS t2.1), .fz (eS t2.2), .any]) (x := (T_parts_of thing)) fun t2 ht2 => ?_
    refine sg_if (tj_or (p := (decide (t2.1 = (okS "")))) (q := ((decide ((sAt t2.1 0) = (okS "0"))) || (decide (9 < (slen t2.1))))) (tj_cmp (p := (decide (t2.1 = (okS "")))) (da := (eS t2.1)) (db := (eS (okS ""))) (ev_fz (i := 1) rfl) ev_C (gEq_g (gd_str (n := 0)))) (fun hb3 => (tj_or (p := (decide ((sAt t2.1 0) = (okS "0")))) (q := (decide (9 < (slen t2.1)))) (tj_cmp (p := (decide ((sAt t2.1 0) = (okS "0")))) (da := (eS (sAt t2.1 0))) (db := (eS (okS "0"))) (ev_ixSN (s := t2.1) (p := 0) (ev_fz (i := 1) rfl) ev_C (by first | exact scQ | exact slen_pos (of_decide_eq_false (by assumption)) | (rw [ht2]; have h_ := parts_len thing; omega) | (rw [sChars_len, ht2]; have h_ := parts_len thing; omega) | exact scT /-2-/) (by first | exact scQ | exact slen_pos (of_decide_eq_false (by assumption)) | (rw [ht2]; have h_ := parts_len thing; omega) | (rw [sChars_len, ht2]; have h_ := parts_len thing; omega) | exact scT /-3-/)) ev_C (gEq_g (gd_str (n := 0)))) (fun hb4 => (tj_cmp (p := (decide (9 < (slen t2.1)))) (da := (eN (slen t2.1))) (db := (eN 9)) (ev_lenS (s := t2.1) (ev_fz (i := 1) rfl) (by first | exact scQ | exact slen_pos (of_decide_eq_false (by assumption)) | (rw [ht2]; have h_ := parts_len thing; omega) | (rw [sChars_len, ht2]; have h_ := parts_len thing; omega) | exact scT /-4-/)) ev_C gGt_nn))))) (fun hc5 => ?_) (fun hc5 => ?_)
    · show Sg [.fz (eS thing), .fz (eS t2.1), .fz (eS t2.2), .any] _ _ _
      exact sg_ret (v := false) ev_C leT roT
    · show Sg [.fz (eS thing), .fz (eS t2.1), .fz (eS t2.2), .any] _ _ _
      refine sg_skip ?_
      refine sg_last ?_
      exact sg_ret (v := (decide (((sChars t2.2).filter (fun (sign6 : OkS) => (!sIn sign6 (okS "abcdefghijklmnopqrstuvwxyz")))) = ([] : (List OkS))))) (ev_cmp (p := (decide (((sChars t2.2).filter (fun (sign6 : OkS) => (!sIn sign6 (okS "abcdefghijklmnopqrstuvwxyz")))) = ([] : (List OkS))))) (da := ((eL eS) ((sChars t2.2).filter (fun (sign6 : OkS) => (!sIn sign6 (okS "abcdefghijklmnopqrstuvwxyz")))))) (db := ((eL eS) ([] : (List OkS)))) (Ev.eq (ev_lc (enc := eS) (encB := eS) (xs := (sChars t2.2)) (p := (fun (sign6 : OkS) => (!sIn sign6 (okS "abcdefghijklmnopqrstuvwxyz")))) (fe := (fun (sign6 : OkS) => sign6)) (ew_val (d := (eS t2.2)) (ev_fz (i := 2) rfl) sq_txt) (by first | exact scQ | exact slen_pos (of_decide_eq_false (by assumption)) | (rw [ht2]; have h_ := parts_len thing; omega) | (rw [sChars_len, ht2]; have h_ := parts_len thing; omega) | exact scT /-5-/) (fun sign6 hx7 => ⟨_, tg_n, (tj_cmp (p := (!sIn sign6 (okS "abcdefghijklmnopqrstuvwxyz"))) (da := (eS sign6)) (db := (eS (okS "abcdefghijklmnopqrstuvwxyz"))) (ev_fz (i := 3) rfl) ev_C gNotIn_txt), (fun _ => leT), fun hp8 => ⟨_, _, (ev_fz (i := 3) rfl), leT⟩⟩)) (map_id_e _ _)) (ev_lst ea_nil) (gEq_g (gd_list (gd_str (n := 0))))) leT roT
def T_parse_path (text : OkS) : (Option YPath) :=
  Let ((sSplit text (okS ".")) : (List OkS)) fun path1 => (if ((path1.map (fun (label2 : OkS) => (T_is_label label2))).all id) = true then (some path1) else none)
theorem tv_parse_path (text : OkS) (hz : slen text ≤ 20) : Ev [.fz (eS text)] f_parse_path .val ((eO yPath) (T_parse_path text)) [.fz (eS text)] := by
  unfold f_parse_path
  refine ev_run (n := 1) (enc := (eO yPath)) (outs := (fun p_ : (Option YPath) => [.fz (eS text), .any, .any])) (v := T_parse_path text) ?_
  unfold b_parse_path T_parse_path
  show Sg [.fz (eS text), .any, .any] _ _ _
  refine sg_set (d := ((eT eS) (sSplit text (okS ".")))) (ev_tupL (enc := eS) (xs := (sSplit text (okS "."))) (ev_split (s := text) (t := (okS ".")) (ev_fz (i := 0) rfl) ev_C (by first | exact scQ | exact hpm_ _ (by assumption) | exact scT /-1-/) (by decide +kernel))) ?_
  refine sg_gen (fun path1 : (List OkS) => [.fz (eS text), .fz ((eT eS) path1), .any]) (x := (sSplit text (okS "."))) fun path1 hpath1 => ?_
  have hpl_ : path1.length ≤ 21 := by rw [hpath1]; exact Nat.le_trans (sSplit_len _ _) (by omega)
  have hpm_ : ∀ l ∈ path1, slen l ≤ 20 := fun l hl => by rw [hpath1] at hl; exact Nat.le_trans (sSplit_mem hl).1 hz
  refine sg_last ?_
  exact sg_ret (v := (if ((path1.map (fun (label2 : OkS) => (T_is_label label2))).all id) = true then (some path1) else none)) (ev_if (enc := (eO yPath)) (x := (some path1)) (y := none) (tj_b (p := ((path1.map (fun (label2 : OkS) => (T_is_label label2))).all id)) (ev_allB (bs := (path1.map (fun (label2 : OkS) => (T_is_label label2)))) (ev_lcY (enc := eS) (encB := eB) (xs := path1) (fe := (fun (label2 : OkS) => (T_is_label label2))) (ew_val (d := ((eT eS) path1)) (ev_fz (i := 1) rfl) rfl) (by first | exact scQ | exact hpm_ _ (by assumption) | exact scT /-3-/) (fun label2 hx3 => ⟨_, tg_n, _, _, (ev_call (tv_is_label label2 (by first | exact scQ | exact hpm_ _ (by assumption) | exact scT /-2-/)) (ea_cons (da := (eS label2)) (ev_fz (i := 2) rfl) ea_nil) rdT), leT⟩)))) (fun hb5 => (ev_fz (i := 1) rfl)) (fun hb5 => ev_C)) leT roT
def T_ref_of (word : OkS) : (Option YPath) :=
  (if (decide ((sTake word 1) = (okS "@"))) = true then (T_parse_path (sDrop word 1)) else none)
theorem tv_ref_of (word : OkS) (hw : word ∈ WDS) : Ev [.fz (eS word)] f_ref_of .val ((eO yPath) (T_ref_of word)) [.fz (eS word)] := by
  have hz_ := wdsT word hw
  unfold f_ref_of
  refine ev_run (n := 1) (enc := (eO yPath)) (outs := (fun p_ : (Option YPath) => [.fz (eS word)])) (v := T_ref_of word) ?_
  unfold b_ref_of T_ref_of
  show Sg [.fz (eS word)] _ _ _
  refine sg_last ?_
  exact sg_ret (v := (if (decide ((sTake word 1) = (okS "@"))) = true then (T_parse_path (sDrop word 1)) else none)) (ev_if (enc := (eO yPath)) (x := (T_parse_path (sDrop word 1))) (y := none) (tj_cmp (p := (decide ((sTake word 1) = (okS "@")))) (da := (eS (sTake word 1))) (db := (eS (okS "@"))) (ev_slSt (s := word) (p := 1) (ev_fz (i := 0) rfl) (ep_part ev_C) (by first | exact scQ | exact Nat.le_trans (slen_dropN word 1) (by omega) | exact scT /-1-/)) ev_C (gEq_g (gd_str (n := 0)))) (fun hb1 => (ev_call (tv_parse_path (sDrop word 1) (by first | exact scQ | exact Nat.le_trans (slen_dropN word 1) (by omega) | exact scT /-3-/)) (ea_cons (da := (eS (sDrop word 1))) (ev_slSd (s := word) (p := 1) (ev_fz (i := 0) rfl) (ep_part ev_C) (by first | exact scQ | exact Nat.le_trans (slen_dropN word 1) (by omega) | exact scT /-2-/)) ea_nil) rdT)) (fun hb1 => ev_C)) leT roT
def T_node_at (body : YBody) (path : YPath) : (Option Nd) :=
  seqO (foldO (fun (s1 : ((Option Nd) × YBody)) (label3 : OkS) => (Let ((s1.2.filter (fun (node6 : Nd) => (decide (node6.lab = label3)))) : (List Nd)) fun able9 => if (able9.isEmpty) = true then (.rt none) else Let ((some (able9.getD 0 nd0)) : (Option Nd)) fun found11 => Let ((found11.getD nd0).kids : YBody) fun body12 => (.nx (found11, body12)) : Ou (Option Nd) ((Option Nd) × YBody))) path (none, body)) id fun (s1 : ((Option Nd) × YBody)) => s1.1
theorem node_at_eq (b : List Nd) (p : List OkS) : T_node_at b p = nodeP b p := node_loop (fun s l => flt_cases s.2 l _ _) p none b
theorem tv_node_at (body : YBody) (path : YPath) (hs : szB body ≤ 1000) : Ev [.fz (yBody body), .fz (yPath path)] f_node_at .val ((eO eNd) (T_node_at body path)) [.any, .fz (yPath path)] := by
  unfold f_node_at
  refine ev_run (n := 2) (enc := (eO eNd)) (outs := (fun p_ : (Option Nd) => [.any, .fz (yPath path), .any, .any, .any, .any])) (v := T_node_at body path) ?_
  unfold b_node_at T_node_at
  show Sg [.fz (yBody body), .fz (yPath path), .any, .any, .any, .any] _ _ _
  refine sg_set (d := ((eO eNd) none)) ev_C ?_
  show Sg [.fz (yBody body), .fz (yPath path), .fz ((eO eNd) none), .any, .any, .any] _ _ _
  refine sg_forO (step := (fun (s1 : ((Option Nd) × YBody)) (label3 : OkS) => (Let ((s1.2.filter (fun (node6 : Nd) => (decide (node6.lab = label3)))) : (List Nd)) fun able9 => if (able9.isEmpty) = true then (.rt none) else Let ((some (able9.getD 0 nd0)) : (Option Nd)) fun found11 => Let ((found11.getD nd0).kids : YBody) fun body12 => (.nx (found11, body12)) : Ou (Option Nd) ((Option Nd) × YBody)))) (inj := id) (hP := pr_out) (enc := eS) (xs := path) (s0 := (none, body)) (fun (s1 : ((Option Nd) × YBody)) => [.fz (yBody s1.2), .fz (yPath path), .fz ((eO eNd) s1.1), .any, .any, .any]) (fun (k : Nat) (s1 : ((Option Nd) × YBody)) => szB s1.2 ≤ 1000)  (ew_val (d := (yPath path)) (ev_fz (i := 1) rfl) rfl) leT (by exact hs) (fun k2 label3 s1 hk4 hI5 => ⟨_, tg_n, ?_⟩) (by intro k2 label3 s1 s_ hk4 hI5 hs_; (unfold Let at hs_; dsimp only at hs_; split at hs_ <;> rename_i hq <;> rcases hs_ with z | z <;> first | (cases z; done) | (cases z; exact mem_len (head_mem (by simpa using hq)) hI5))) (fun s1 hI5 => ?_)
  · show Sg [.fz (yBody s1.2), .fz (yPath path), .fz ((eO eNd) s1.1), .fz (eS label3), .any, .any] _ _ _
    have hlthk4 := lt_of_get hk4
    have hmhk4 := List.mem_of_getElem? hk4
    have hl_ := len_sz hI5
    refine sg_set (d := ((eL eNd) (s1.2.filter (fun (node6 : Nd) => (decide (node6.lab = label3)))))) (Ev.eq (ev_lc (enc := eNd) (encB := eNd) (xs := s1.2) (p := (fun (node6 : Nd) => (decide (node6.lab = label3)))) (fe := (fun (node6 : Nd) => node6)) (ew_val (d := (yBody s1.2)) (ev_fz (i := 0) rfl) rfl) (by first | exact scQ | exact List.length_pos_iff.mpr (by simp_all) | (rw [hfound11]; rfl) | exact scT /-1-/) (fun node6 hx7 => ⟨_, tg_n, (tj_cmp (p := (decide (node6.lab = label3))) (da := (eS node6.lab)) (db := (eS label3)) (ev_ixC (d := (eNd node6)) (d' := (eS node6.lab)) (ev_fz (i := 5) rfl) gIx_nd0) (ev_fz (i := 3) rfl) (gEqX_of (gEq_g (gd_str (n := 0))))), (fun _ => leT), fun hp8 => ⟨_, _, (ev_fz (i := 5) rfl), leT⟩⟩)) (map_id_e _ _)) ?_
    refine sg_gen (fun able9 : (List Nd) => [.fz (yBody s1.2), .fz (yPath path), .fz ((eO eNd) s1.1), .fz (eS label3), .ow ((eL eNd) able9), .any]) (x := (s1.2.filter (fun (node6 : Nd) => (decide (node6.lab = label3))))) fun able9 hable9 => ?_
    refine sg_if (tj_cmp (p := (able9.isEmpty)) (da := ((eL eNd) able9)) (db := ((eL eNd) ([] : (List Nd)))) (ev_ow (i := 4) rfl) (ev_lst ea_nil) (gEqX_nil_ (enc := eNd))) (fun hc10 => ?_) (fun hc10 => ?_)
    · show Sg [.fz (yBody s1.2), .fz (yPath path), .fz ((eO eNd) s1.1), .fz (eS label3), .ow ((eL eNd) able9), .any] _ _ _
      exact sg_retO (v := none) ev_C leT roT
    · show Sg [.fz (yBody s1.2), .fz (yPath path), .fz ((eO eNd) s1.1), .fz (eS label3), .ow ((eL eNd) able9), .any] _ _ _
      refine sg_skip ?_
      refine sg_set (d := ((eO eNd) (some (able9.getD 0 nd0)))) (ev_ixLN nd0 (enc := eNd) (xs := able9) (p := 0) (ev_ow (i := 4) rfl) ev_C (by first | exact scQ | exact List.length_pos_iff.mpr (by simp_all) | (rw [hfound11]; rfl) | exact scT /-2-/)) ?_
      refine sg_gen (fun found11 : (Option Nd) => [.fz (yBody s1.2), .fz (yPath path), .fz ((eO eNd) found11), .fz (eS label3), .ow ((eL eNd) able9), .any]) (x := (some (able9.getD 0 nd0))) fun found11 hfound11 => ?_
      refine sg_last ?_
      refine sg_set (d := (yBody ((found11.getD nd0).kids))) (ev_ixC (d := (eNd (found11.getD nd0))) (d' := (yBody ((found11.getD nd0).kids))) (Ev.eq (ev_fz (i := 2) rfl) (eO_get nd0 (by first | exact scQ | exact List.length_pos_iff.mpr (by simp_all) | (rw [hfound11]; rfl) | exact scT /-3-/))) gIx_nd2) ?_
      refine sg_gen (fun body12 : YBody => [.fz (yBody body12), .fz (yPath path), .fz ((eO eNd) found11), .fz (eS label3), .ow ((eL eNd) able9), .any]) (x := (found11.getD nd0).kids) fun body12 hbody12 => ?_
      exact sg_passO leT
  show Sg [.fz (yBody s1.2), .fz (yPath path), .fz ((eO eNd) s1.1), .any, .any, .any] _ _ _
  refine sg_last ?_
  exact sg_ret (v := s1.1) (ev_fz (i := 2) rfl) leT roT
def T_all_paths : Nat → YBody → (List YPath)
  | 0, _ => []
  | d + 1, body =>
  Let (([] : (List YPath)) : (List YPath)) fun found1 => Let (List.foldl (fun (s2 : ((List YPath))) (x4 : Nd) => Let ((s2 ++ [[x4.lab]]) : (List YPath)) fun found7 => Let ((found7 ++ ((T_all_paths d x4.kids).map (fun (path8 : YPath) => ([x4.lab] ++ path8)))) : (List YPath)) fun found11 => found11) found1 body) fun (s2 : ((List YPath))) => s2
theorem all_paths_eq : ∀ (d : Nat) (b : List Nd), lvB b < d → T_all_paths d b = prB b
  | 0, b, h => by omega
  | d + 1, b, h => by
    unfold T_all_paths Let
    dsimp only
    have e : ∀ (xs : List Nd) (acc : List (List OkS)), (∀ x ∈ xs, x ∈ b) → xs.foldl (fun s x => s ++ [[x.lab]] ++ (T_all_paths d x.kids).map fun p => [x.lab] ++ p) acc = acc ++ xs.flatMap prN := fun xs => by
      induction xs with
      | nil => intro acc _; simp
      | cons x xs ih =>
        intro acc hx
        rw [List.foldl_cons, ih _ fun y hy => hx y (by simp [hy]), List.flatMap_cons, prN_eq, all_paths_eq d x.kids (lv_kid (hx x (by simp)) h)]
        simp
    rw [prB_flat, e b [] (fun _ h => h), List.nil_append]
theorem all_paths_len {d : Nat} {b : List Nd} (h : lvB b < d) (hs : szB b ≤ 1000) : (T_all_paths d b).length ≤ 1000 := by rw [all_paths_eq d b h, prB_len]; exact hs
theorem all_paths_lv {d : Nat} {b : List Nd} (h : lvB b < d) {p : List OkS} (hp : p ∈ T_all_paths d b) : p.length ≤ d := by rw [all_paths_eq d b h] at hp; have := prB_lv (lvB b) (Nat.le_refl _) hp; omega
theorem tv_all_paths : ∀ (d : Nat) (body : YBody) (hd : lvB body < d ∧ szB body ≤ 1000 ∧ d ≤ 20), Ev [.fz (yBody body)] (f_all_paths d) .val ((eT yPath) (T_all_paths d body)) [.fz (yBody body)] := by
  intro d
  induction d with
  | zero => intro body hd; exact absurd hd.1 (Nat.not_lt_zero _)
  | succ d ih_self =>
  intro body hd
  unfold f_all_paths
  refine ev_run (n := 1) (enc := (eT yPath)) (outs := (fun p_ : (List YPath) => [.fz (yBody body), .any, .any, .any, .any, .any])) (v := T_all_paths (d + 1) body) ?_
  unfold b_all_paths T_all_paths
  show Sg [.fz (yBody body), .any, .any, .any, .any, .any] _ _ _
  refine sg_set (d := ((eL yPath) ([] : (List YPath)))) (ev_lst ea_nil) ?_
  refine sg_gen (fun found1 : (List YPath) => [.fz (yBody body), .ow ((eL yPath) found1), .any, .any, .any, .any]) (x := ([] : (List YPath))) fun found1 hfound1 => ?_
  refine sg_for (step := (fun (s2 : ((List YPath))) (x4 : Nd) => Let ((s2 ++ [[x4.lab]]) : (List YPath)) fun found7 => Let ((found7 ++ ((T_all_paths d x4.kids).map (fun (path8 : YPath) => ([x4.lab] ++ path8)))) : (List YPath)) fun found11 => found11)) (enc := eNd) (xs := body) (s0 := found1) (fun (s2 : ((List YPath))) => [.fz (yBody body), .ow ((eL yPath) s2), .any, .any, .any, .any]) (fun (k : Nat) (s2 : ((List YPath))) => s2.length ≤ 1001 * k) (ew_val (d := (yBody body)) (ev_fz (i := 0) rfl) rfl) leT (by rw [hfound1]; simp) (fun k3 x4 s2 hk5 hI6 => ⟨_, (Tg.eq (eNd_un _).symm (tg_t (tg_cons tg_n (tg_cons tg_n (tg_cons tg_n tg_nil))))), ?_⟩) (by intro k3 x4 s2 hk5 hI6; (have hx3 := all_paths_len (lv_kid (List.mem_of_getElem? hk5) hd.1) (mem_len (List.mem_of_getElem? hk5) hd.2.1); unfold Let; dsimp only; simp only [List.length_append, List.length_map, List.length_cons, List.length_nil]; omega)) (fun s2 hs2 hI6 => ?_)
  · show Sg [.fz (yBody body), .ow ((eL yPath) s2), .fz (eS x4.lab), .fz ((eT eS) x4.words), .fz (yBody x4.kids), .any] _ _ _
    have hlthk5 := lt_of_get hk5
    have hmhk5 := List.mem_of_getElem? hk5
    have hx1 := lv_kid hmhk5 hd.1
    have hx2 := mem_len hmhk5 hd.2.1
    have hx3 := all_paths_len hx1 hx2
    have hx4 := len_sz hd.2.1
    have hx5 := hlthk5
    refine sg_drop (ev_app (enc := yPath) (xs := s2) (x := [x4.lab]) rfl (ev_tup (ea_cons (da := (eS x4.lab)) (ev_fz (i := 2) rfl) ea_nil)) rfl (by first | exact scQ | (have := all_paths_lv hx1 (by assumption); simp only [List.length_cons, List.length_nil]; omega) | exact ⟨hx1, hx2, by omega⟩ | (rw [hfound7, List.length_append, List.length_map]; simp only [List.length_cons, List.length_nil]; omega) | exact scT /-1-/)) ?_
    refine sg_gen (fun found7 : (List YPath) => [.fz (yBody body), .ow ((eL yPath) found7), .fz (eS x4.lab), .fz ((eT eS) x4.words), .fz (yBody x4.kids), .any]) (x := (s2 ++ [[x4.lab]])) fun found7 hfound7 => ?_
    refine sg_last ?_
    refine sg_drop (ev_ext (enc := yPath) (xs := found7) (ys := ((T_all_paths d x4.kids).map (fun (path8 : YPath) => ([x4.lab] ++ path8)))) rfl (ev_lcY (enc := yPath) (encB := yPath) (xs := (T_all_paths d x4.kids)) (fe := (fun (path8 : YPath) => ([x4.lab] ++ path8))) (ew_val (d := ((eT yPath) (T_all_paths d x4.kids))) (ev_call (ih_self x4.kids (by first | exact scQ | (have := all_paths_lv hx1 (by assumption); simp only [List.length_cons, List.length_nil]; omega) | exact ⟨hx1, hx2, by omega⟩ | (rw [hfound7, List.length_append, List.length_map]; simp only [List.length_cons, List.length_nil]; omega) | exact scT /-2-/)) (ea_cons (da := (yBody x4.kids)) (ev_fz (i := 4) rfl) ea_nil) rdT) rfl) (by first | exact scQ | (have := all_paths_lv hx1 (by assumption); simp only [List.length_cons, List.length_nil]; omega) | exact ⟨hx1, hx2, by omega⟩ | (rw [hfound7, List.length_append, List.length_map]; simp only [List.length_cons, List.length_nil]; omega) | exact scT /-4-/) (fun path8 hx9 => ⟨_, tg_n, _, _, (ev_addT (enc := eS) (xs := [x4.lab]) (ys := path8) (ev_tup (ea_cons (da := (eS x4.lab)) (ev_fz (i := 2) rfl) ea_nil)) (ev_fz (i := 5) rfl) (by first | exact scQ | (have := all_paths_lv hx1 (by assumption); simp only [List.length_cons, List.length_nil]; omega) | exact ⟨hx1, hx2, by omega⟩ | (rw [hfound7, List.length_append, List.length_map]; simp only [List.length_cons, List.length_nil]; omega) | exact scT /-3-/)), leT⟩)) rfl (by first | exact scQ | (have := all_paths_lv hx1 (by assumption); simp only [List.length_cons, List.length_nil]; omega) | exact ⟨hx1, hx2, by omega⟩ | (rw [hfound7, List.length_append, List.length_map]; simp only [List.length_cons, List.length_nil]; omega) | exact scT /-5-/)) ?_
    refine sg_gen (fun found11 : (List YPath) => [.fz (yBody body), .ow ((eL yPath) found11), .fz (eS x4.lab), .fz ((eT eS) x4.words), .fz (yBody x4.kids), .any]) (x := (found7 ++ ((T_all_paths d x4.kids).map (fun (path8 : YPath) => ([x4.lab] ++ path8))))) fun found11 hfound11 => ?_
    exact sg_passN leT
  show Sg [.fz (yBody body), .ow ((eL yPath) s2), .any, .any, .any, .any] _ _ _
  refine sg_last ?_
  exact sg_ret (v := s2) (ev_tupL (enc := yPath) (xs := s2) (ev_ow (i := 1) rfl)) leT roT
def T_refs_of (body : YBody) : (List YRef) :=
  Let (([] : (List YRef)) : (List YRef)) fun found1 => Let (List.foldl (fun (s2 : ((List YRef))) (path4 : YPath) => Let (((T_node_at body path4).getD nd0).words : (List OkS)) fun words7 => Let (List.foldl (fun (s8 : ((List YRef))) (place10 : Nat) => Let ((T_ref_of (words7.getD place10 dS0)) : (Option YPath)) fun goal13 => if (!goal13.isNone) = true then Let ((s8 ++ [(path4, place10, (goal13.getD []))]) : (List YRef)) fun found15 => found15 else s8) s2 (List.range words7.length)) fun (s8 : ((List YRef))) => s8) found1 (T_all_paths 5 body)) fun (s2 : ((List YRef))) => s2
theorem tv_refs_of (body : YBody) (hW : WfB PL LV body) (hs : szB body ≤ 100) : Ev [.fz (yBody body)] f_refs_of .val ((eT yRef) (T_refs_of body)) [.fz (yBody body)] := by
  have hd_ : lvB body < 5 := Nat.lt_of_le_of_lt (wfB_lv hW) (by decide)
  have hs1_ : szB body ≤ 1000 := by omega
  unfold f_refs_of
  refine ev_run (n := 1) (enc := (eT yRef)) (outs := (fun p_ : (List YRef) => [.fz (yBody body), .any, .any, .any, .any, .any])) (v := T_refs_of body) ?_
  unfold b_refs_of T_refs_of
  show Sg [.fz (yBody body), .any, .any, .any, .any, .any] _ _ _
  refine sg_set (d := ((eL yRef) ([] : (List YRef)))) (ev_lst ea_nil) ?_
  refine sg_gen (fun found1 : (List YRef) => [.fz (yBody body), .ow ((eL yRef) found1), .any, .any, .any, .any]) (x := ([] : (List YRef))) fun found1 hfound1 => ?_
  refine sg_for (step := (fun (s2 : ((List YRef))) (path4 : YPath) => Let (((T_node_at body path4).getD nd0).words : (List OkS)) fun words7 => Let (List.foldl (fun (s8 : ((List YRef))) (place10 : Nat) => Let ((T_ref_of (words7.getD place10 dS0)) : (Option YPath)) fun goal13 => if (!goal13.isNone) = true then Let ((s8 ++ [(path4, place10, (goal13.getD []))]) : (List YRef)) fun found15 => found15 else s8) s2 (List.range words7.length)) fun (s8 : ((List YRef))) => s8)) (enc := yPath) (xs := (T_all_paths 5 body)) (s0 := found1) (fun (s2 : ((List YRef))) => [.fz (yBody body), .ow ((eL yRef) s2), .any, .any, .any, .any]) (fun (k : Nat) (s2 : ((List YRef))) => s2.length ≤ 3 * k) (ew_val (d := ((eT yPath) (T_all_paths 5 body))) (ev_call (tv_all_paths 5 body (by first | exact scQ | exact ⟨hd_, hs1_, by decide⟩ | exact hn1_ | exact hwm_ _ (getD_mem' _ (List.mem_range.mp (by assumption))) | omega | exact scT /-1-/)) (ea_cons (da := (yBody body)) (ev_fz (i := 0) rfl) ea_nil) rdT) rfl) leT (by rw [hfound1]; exact Nat.zero_le _) (fun k3 path4 s2 hk5 hI6 => ⟨_, tg_n, ?_⟩) (by intro k3 path4 s2 hk5 hI6; (have hpb_ : path4 ∈ prB body := (by rw [← all_paths_eq 5 body hd_]; exact List.mem_of_getElem? hk5); have hn_ := (node_P hW hpb_).2.1; rw [← node_at_eq] at hn_; unfold Let; dsimp only; refine Nat.le_trans (fold_bd (fun s x => ?_) _ _) ?_; (split; (rw [List.length_append]; exact Nat.le_refl _); exact Nat.le_succ _); (have h_ := hI6; rw [List.length_range]; omega))) (fun s2 hs2 hI6 => ?_)
  · show Sg [.fz (yBody body), .ow ((eL yRef) s2), .fz (yPath path4), .any, .any, .any] _ _ _
    have hlthk5 := lt_of_get hk5
    have hmhk5 := List.mem_of_getElem? hk5
    have hlk_ := hlthk5
    have hpb_ : path4 ∈ prB body := by rw [← all_paths_eq 5 body hd_]; exact hmhk5
    have hn_ := node_P hW hpb_
    rw [← node_at_eq] at hn_
    have hn1_ := hn_.1
    have hI1_ := hI6
    have hpl_ : (T_all_paths 5 body).length ≤ 100 := by rw [all_paths_eq 5 body hd_, prB_len]; exact hs
    refine sg_set (d := ((eT eS) (((T_node_at body path4).getD nd0).words))) (ev_ixC (d := (eNd ((T_node_at body path4).getD nd0))) (d' := ((eT eS) (((T_node_at body path4).getD nd0).words))) (Ev.eq (ev_call (tv_node_at body path4 (by first | exact scQ | exact ⟨hd_, hs1_, by decide⟩ | exact hn1_ | exact hwm_ _ (getD_mem' _ (List.mem_range.mp (by assumption))) | omega | exact scT /-2-/)) (ea_cons (da := (yBody body)) (ev_fz (i := 0) rfl) (ea_cons (da := (yPath path4)) (ev_fz (i := 2) rfl) ea_nil)) rdT) (eO_get nd0 (by first | exact scQ | exact ⟨hd_, hs1_, by decide⟩ | exact hn1_ | exact hwm_ _ (getD_mem' _ (List.mem_range.mp (by assumption))) | omega | exact scT /-3-/))) gIx_nd1) ?_
    refine sg_gen (fun words7 : (List OkS) => [.fz (yBody body), .ow ((eL yRef) s2), .fz (yPath path4), .fz ((eT eS) words7), .any, .any]) (x := ((T_node_at body path4).getD nd0).words) fun words7 hwords7 => ?_
    have hwl_ : words7.length ≤ 3 := by rw [hwords7]; exact hn_.2.1
    have hwm_ : ∀ x ∈ words7, x ∈ WDS := by rw [hwords7]; exact hn_.2.2
    refine sg_last ?_
    refine sg_for (step := (fun (s8 : ((List YRef))) (place10 : Nat) => Let ((T_ref_of (words7.getD place10 dS0)) : (Option YPath)) fun goal13 => if (!goal13.isNone) = true then Let ((s8 ++ [(path4, place10, (goal13.getD []))]) : (List YRef)) fun found15 => found15 else s8)) (enc := eN) (xs := (List.range words7.length)) (s0 := s2) (fun (s8 : ((List YRef))) => [.fz (yBody body), .ow ((eL yRef) s8), .fz (yPath path4), .fz ((eT eS) words7), .any, .any]) (fun (k : Nat) (s8 : ((List YRef))) => s8.length ≤ 3 * k3 + k) (ew_rgN (n := words7.length) (ev_lenT (enc := eS) (xs := words7) (ev_fz (i := 3) rfl)) (by first | exact scQ | exact ⟨hd_, hs1_, by decide⟩ | exact hn1_ | exact hwm_ _ (getD_mem' _ (List.mem_range.mp (by assumption))) | omega | exact scT /-4-/)) leT (by exact hI1_) (fun k9 place10 s8 hk11 hI12 => ⟨_, tg_n, ?_⟩) (by intro k9 place10 s8 hk11 hI12; (unfold Let; dsimp only; have h_ := hI12; split; (rw [List.length_append]; simp only [List.length_cons, List.length_nil]; omega); omega)) (fun s8 hs8 hI12 => ?_)
    · show Sg [.fz (yBody body), .ow ((eL yRef) s8), .fz (yPath path4), .fz ((eT eS) words7), .fz (eN place10), .any] _ _ _
      have hlthk11 := lt_of_get hk11
      have hmhk11 := List.mem_of_getElem? hk11
      have hl2_ := hlthk11
      rw [List.length_range] at hl2_
      have hI2_ := hI12
      refine sg_set (d := ((eO yPath) (T_ref_of (words7.getD place10 dS0)))) (ev_call (tv_ref_of (words7.getD place10 dS0) (by first | exact scQ | exact ⟨hd_, hs1_, by decide⟩ | exact hn1_ | exact hwm_ _ (getD_mem' _ (List.mem_range.mp (by assumption))) | omega | exact scT /-6-/)) (ea_cons (da := (eS (words7.getD place10 dS0))) (ev_ixTN dS0 (enc := eS) (xs := words7) (p := place10) (ev_fz (i := 3) rfl) (ev_fz (i := 4) rfl) (by first | exact scQ | exact ⟨hd_, hs1_, by decide⟩ | exact hn1_ | exact hwm_ _ (getD_mem' _ (List.mem_range.mp (by assumption))) | omega | exact scT /-5-/)) ea_nil) rdT) ?_
      refine sg_gen (fun goal13 : (Option YPath) => [.fz (yBody body), .ow ((eL yRef) s8), .fz (yPath path4), .fz ((eT eS) words7), .fz (eN place10), .fz ((eO yPath) goal13)]) (x := (T_ref_of (words7.getD place10 dS0))) fun goal13 hgoal13 => ?_
      refine sg_last ?_
      refine sg_if (tj_cmp (p := (!goal13.isNone)) (da := ((eO yPath) goal13)) (db := PyData.none) (ev_fz (i := 5) rfl) ev_C (gIsNot_O (fun _ => rfl))) (fun hc14 => ?_) (fun hc14 => ?_)
      · show Sg [.fz (yBody body), .ow ((eL yRef) s8), .fz (yPath path4), .fz ((eT eS) words7), .fz (eN place10), .fz ((eO yPath) goal13)] _ _ _
        refine sg_drop (ev_app (enc := yRef) (xs := s8) (x := (path4, place10, (goal13.getD []))) rfl (ev_tup (ea_cons (da := (yPath path4)) (ev_fz (i := 2) rfl) (ea_cons (da := (eN place10)) (ev_fz (i := 4) rfl) (ea_cons (da := (yPath (goal13.getD []))) (Ev.eq (ev_fz (i := 5) rfl) (eO_get [] (by first | exact scQ | exact ⟨hd_, hs1_, by decide⟩ | exact hn1_ | exact hwm_ _ (getD_mem' _ (List.mem_range.mp (by assumption))) | omega | exact scT /-7-/))) ea_nil)))) rfl (by first | exact scQ | exact ⟨hd_, hs1_, by decide⟩ | exact hn1_ | exact hwm_ _ (getD_mem' _ (List.mem_range.mp (by assumption))) | omega | exact scT /-8-/)) ?_
        refine sg_gen (fun found15 : (List YRef) => [.fz (yBody body), .ow ((eL yRef) found15), .fz (yPath path4), .fz ((eT eS) words7), .fz (eN place10), .fz ((eO yPath) goal13)]) (x := (s8 ++ [(path4, place10, (goal13.getD []))])) fun found15 hfound15 => ?_
        exact sg_passN leT
      · show Sg [.fz (yBody body), .ow ((eL yRef) s8), .fz (yPath path4), .fz ((eT eS) words7), .fz (eN place10), .fz ((eO yPath) goal13)] _ _ _
        refine sg_skip ?_
        exact sg_passN leT
    show Sg [.fz (yBody body), .ow ((eL yRef) s8), .fz (yPath path4), .fz ((eT eS) words7), .any, .any] _ _ _
    exact sg_passN leT
  show Sg [.fz (yBody body), .ow ((eL yRef) s2), .any, .any, .any, .any] _ _ _
  refine sg_last ?_
  exact sg_ret (v := s2) (ev_tupL (enc := yRef) (xs := s2) (ev_ow (i := 1) rfl)) leT roT
theorem refs_len {b : List Nd} (hd : lvB b < 5) (hW : WfB PL LV b) (hs : szB b ≤ 100) : (T_refs_of b).length ≤ 300 := by
  unfold T_refs_of Let
  dsimp only
  have h := foldl_ix (P := fun k (s : List YRef) => s.length ≤ 3 * k) (f := fun (s2 : ((List YRef))) (path4 : YPath) => (List.foldl (fun (s8 : ((List YRef))) (place10 : Nat) => if (!(T_ref_of ((((T_node_at b path4).getD nd0).words).getD place10 dS0)).isNone) = true then (s8 ++ [(path4, place10, ((T_ref_of ((((T_node_at b path4).getD nd0).words).getD place10 dS0)).getD []))]) else s8) s2 (List.range (((T_node_at b path4).getD nd0).words).length))) (xs := T_all_paths 5 b) (s := []) (Nat.zero_le _) (fun k s p hp hk => by
    have hpm : p ∈ prB b := by rw [← all_paths_eq 5 b hd]; exact List.mem_of_getElem? hp
    have hn := (node_P hW hpm).2.1
    rw [← node_at_eq] at hn
    have h1 := fold_bd (f := fun (s8 : ((List YRef))) (place10 : Nat) => if (!(T_ref_of ((((T_node_at b p).getD nd0).words).getD place10 dS0)).isNone) = true then (s8 ++ [(p, place10, ((T_ref_of ((((T_node_at b p).getD nd0).words).getD place10 dS0)).getD []))]) else s8) (fun s x => by
      split
      · rw [List.length_append]; exact Nat.le_refl _
      · exact Nat.le_succ _) (List.range (((T_node_at b p).getD nd0).words).length) s
    rw [List.length_range] at h1
    omega)
  rw [all_paths_eq 5 b hd] at h
  have h2 := prB_len b
  rw [all_paths_eq 5 b hd]
  exact Nat.le_trans h (by omega)
def T_dangling (body : YBody) : (List YRef) :=
  ((T_refs_of body).filter (fun (ref1 : YRef) => (T_node_at body ref1.2.2).isNone))
theorem tv_dangling (body : YBody) (hW : WfB PL LV body) (hs : szB body ≤ 100) : Ev [.fz (yBody body)] f_dangling .val ((eT yRef) (T_dangling body)) [.fz (yBody body)] := by
  have hd_ : lvB body < 5 := Nat.lt_of_le_of_lt (wfB_lv hW) (by decide)
  have hs1_ : szB body ≤ 1000 := by omega
  have hrl_ := refs_len hd_ hW hs
  unfold f_dangling
  refine ev_run (n := 1) (enc := (eT yRef)) (outs := (fun p_ : (List YRef) => [.fz (yBody body), .any])) (v := T_dangling body) ?_
  unfold b_dangling T_dangling
  show Sg [.fz (yBody body), .any] _ _ _
  refine sg_last ?_
  exact sg_ret (v := ((T_refs_of body).filter (fun (ref1 : YRef) => (T_node_at body ref1.2.2).isNone))) (ev_tupL (enc := yRef) (xs := ((T_refs_of body).filter (fun (ref1 : YRef) => (T_node_at body ref1.2.2).isNone))) (Ev.eq (ev_lc (enc := yRef) (encB := yRef) (xs := (T_refs_of body)) (p := (fun (ref1 : YRef) => (T_node_at body ref1.2.2).isNone)) (fe := (fun (ref1 : YRef) => ref1)) (ew_val (d := ((eT yRef) (T_refs_of body))) (ev_call (tv_refs_of body (by first | exact scQ | exact scT /-1-/) (by first | exact scQ | exact scT /-2-/)) (ea_cons (da := (yBody body)) (ev_fz (i := 0) rfl) ea_nil) rdT) rfl) (by first | exact scQ | exact scT /-4-/) (fun ref1 hx2 => ⟨_, tg_n, (tj_cmp (p := (T_node_at body ref1.2.2).isNone) (da := ((eO eNd) (T_node_at body ref1.2.2))) (db := PyData.none) (ev_call (tv_node_at body ref1.2.2 (by first | exact scQ | exact scT /-3-/)) (ea_cons (da := (yBody body)) (ev_fz (i := 0) rfl) (ea_cons (da := (yPath ref1.2.2)) (ev_ixC (d := (yRef ref1)) (d' := (yPath ref1.2.2)) (ev_fz (i := 1) rfl) rfl) ea_nil)) rdT) ev_C (gIs_O isNone_nd)), (fun _ => leT), fun hp3 => ⟨_, _, (ev_fz (i := 1) rfl), leT⟩⟩)) (map_id_e _ _))) leT roT
def T_is_within (path : YPath) (other : YPath) : Bool :=
  (decide ((path.take other.length) = other))
theorem tv_is_within (path : YPath) (other : YPath)  : Ev [.fz (yPath path), .fz (yPath other)] f_is_within .val (eB (T_is_within path other)) [.fz (yPath path), .fz (yPath other)] := by
  unfold f_is_within
  refine ev_run (n := 2) (enc := eB) (outs := (fun p_ : Bool => [.fz (yPath path), .fz (yPath other)])) (v := T_is_within path other) ?_
  unfold b_is_within T_is_within
  show Sg [.fz (yPath path), .fz (yPath other)] _ _ _
  refine sg_last ?_
  exact sg_ret (v := (decide ((path.take other.length) = other))) (ev_cmp (p := (decide ((path.take other.length) = other))) (da := (yPath (path.take other.length))) (db := (yPath other)) (ev_slTt (enc := eS) (xs := path) (p := other.length) (ev_fz (i := 0) rfl) (ep_part (ev_lenT (enc := eS) (xs := other) (ev_fz (i := 1) rfl)))) (ev_fz (i := 1) rfl) (gEq_g (gd_tl (gd_str (n := 0))))) leT roT
def T_refs_to (body : YBody) (path : YPath) : (List YRef) :=
  ((T_refs_of body).filter (fun (ref1 : YRef) => (T_is_within ref1.2.2 path)))
theorem tv_refs_to (body : YBody) (path : YPath) (hW : WfB PL LV body) (hs : szB body ≤ 100) : Ev [.fz (yBody body), .fz (yPath path)] f_refs_to .val ((eT yRef) (T_refs_to body path)) [.fz (yBody body), .fz (yPath path)] := by
  have hd_ : lvB body < 5 := Nat.lt_of_le_of_lt (wfB_lv hW) (by decide)
  have hs1_ : szB body ≤ 1000 := by omega
  have hrl_ := refs_len hd_ hW hs
  unfold f_refs_to
  refine ev_run (n := 2) (enc := (eT yRef)) (outs := (fun p_ : (List YRef) => [.fz (yBody body), .fz (yPath path), .any])) (v := T_refs_to body path) ?_
  unfold b_refs_to T_refs_to
  show Sg [.fz (yBody body), .fz (yPath path), .any] _ _ _
  refine sg_last ?_
  exact sg_ret (v := ((T_refs_of body).filter (fun (ref1 : YRef) => (T_is_within ref1.2.2 path)))) (ev_tupL (enc := yRef) (xs := ((T_refs_of body).filter (fun (ref1 : YRef) => (T_is_within ref1.2.2 path)))) (Ev.eq (ev_lc (enc := yRef) (encB := yRef) (xs := (T_refs_of body)) (p := (fun (ref1 : YRef) => (T_is_within ref1.2.2 path))) (fe := (fun (ref1 : YRef) => ref1)) (ew_val (d := ((eT yRef) (T_refs_of body))) (ev_call (tv_refs_of body (by first | exact scQ | exact scT /-1-/) (by first | exact scQ | exact scT /-2-/)) (ea_cons (da := (yBody body)) (ev_fz (i := 0) rfl) ea_nil) rdT) rfl) (by first | exact scQ | exact scT /-3-/) (fun ref1 hx2 => ⟨_, tg_n, (tj_b (p := (T_is_within ref1.2.2 path)) (ev_call (tv_is_within ref1.2.2 path ) (ea_cons (da := (yPath ref1.2.2)) (ev_ixC (d := (yRef ref1)) (d' := (yPath ref1.2.2)) (ev_fz (i := 2) rfl) rfl) (ea_cons (da := (yPath path)) (ev_fz (i := 1) rfl) ea_nil)) rdT)), (fun _ => leT), fun hp3 => ⟨_, _, (ev_fz (i := 2) rfl), leT⟩⟩)) (map_id_e _ _))) leT roT
def T_ring_from (refs : (List YRef)) (first : YPath) : (Option (List YPath)) :=
  Let (([[first]] : (List (List YPath))) : (List (List YPath))) fun rows1 => seqO (whO (fun (s2 : ((List (YPath × Bool)) × (List (List YPath)) × Nat)) => (decide (s2.2.2 < s2.2.1.length))) (fun (s2 : ((List (YPath × Bool)) × (List (List YPath)) × Nat)) => (seqO (foldO (fun (s5 : ((List (YPath × Bool)) × (List (List YPath)))) (x7 : YRef) => (if (decide (x7.1 = ((s5.2.getD s2.2.2 []).getLastD []))) = true then if (decide (x7.2.2 = first)) = true then (.rt (some (s5.2.getD s2.2.2 []))) else if (!decide (x7.2.2 ∈ hkeys s5.1)) = true then Let ((hput s5.1 x7.2.2 true) : (List (YPath × Bool))) fun met13 => Let ((s5.2 ++ [((s5.2.getD s2.2.2 []) ++ [x7.2.2])]) : (List (List YPath))) fun rows14 => (.nx (met13, rows14)) else (.nx (s5.1, s5.2)) else (.nx (s5.1, s5.2)) : Ou (Option (List YPath)) ((List (YPath × Bool)) × (List (List YPath))))) refs (s2.1, s2.2.1)) Ou.rt fun (s5 : ((List (YPath × Bool)) × (List (List YPath)))) => Let ((s2.2.2 + 1) : Nat) fun at15 => (.nx (s5.1, s5.2, at15)) : Ou (Option (List YPath)) ((List (YPath × Bool)) × (List (List YPath)) × Nat))) (1000) ([], rows1, 0)) id fun (s2 : ((List (YPath × Bool)) × (List (List YPath)) × Nat)) => none
theorem tv_ring_from (refs : (List YRef)) (first : YPath) (hr : refs.length ≤ 300) : Ev [.fz ((eT yRef) refs), .fz (yPath first)] f_ring_from .val ((eO (eT yPath)) (T_ring_from refs first)) [.fz ((eT yRef) refs), .fz (yPath first)] := by
  unfold f_ring_from
  refine ev_run (n := 2) (enc := (eO (eT yPath))) (outs := (fun p_ : (Option (List YPath)) => [.fz ((eT yRef) refs), .fz (yPath first), .any, .any, .any, .any, .any, .any])) (v := T_ring_from refs first) ?_
  unfold b_ring_from T_ring_from
  show Sg [.fz ((eT yRef) refs), .fz (yPath first), .any, .any, .any, .any, .any, .any] _ _ _
  refine sg_set (d := ((eL (eT yPath)) ([[first]] : (List (List YPath))))) (ev_lst (ea_cons (da := ((eT yPath) [first])) (ev_tup (ea_cons (da := (yPath first)) (ev_fz (i := 1) rfl) ea_nil)) ea_nil)) ?_
  refine sg_gen (fun rows1 : (List (List YPath)) => [.fz ((eT yRef) refs), .fz (yPath first), .ow ((eL (eT yPath)) rows1), .any, .any, .any, .any, .any]) (x := ([[first]] : (List (List YPath)))) fun rows1 hrows1 => ?_
  refine sg_set (d := ((eTd yPath eB) [])) (ev_newT (ek := yPath) (ev := eB)) ?_
  show Sg [.fz ((eT yRef) refs), .fz (yPath first), .ow ((eL (eT yPath)) rows1), .ow ((eTd yPath eB) []), .any, .any, .any, .any] _ _ _
  refine sg_set (d := (eN 0)) ev_C ?_
  show Sg [.fz ((eT yRef) refs), .fz (yPath first), .ow ((eL (eT yPath)) rows1), .ow ((eTd yPath eB) []), .fz (eN 0), .any, .any, .any] _ _ _
  refine sg_whileO (fun (s2 : ((List (YPath × Bool)) × (List (List YPath)) × Nat)) => [.fz ((eT yRef) refs), .fz (yPath first), .ow ((eL (eT yPath)) s2.2.1), .ow ((eTd yPath eB) s2.1), .fz (eN s2.2.2), .any, .any, .any]) (1000) (s0 := ([], rows1, 0)) (cc := fun (s2 : ((List (YPath × Bool)) × (List (List YPath)) × Nat)) => (decide (s2.2.2 < s2.2.1.length))) (step := (fun (s2 : ((List (YPath × Bool)) × (List (List YPath)) × Nat)) => (seqO (foldO (fun (s5 : ((List (YPath × Bool)) × (List (List YPath)))) (x7 : YRef) => (if (decide (x7.1 = ((s5.2.getD s2.2.2 []).getLastD []))) = true then if (decide (x7.2.2 = first)) = true then (.rt (some (s5.2.getD s2.2.2 []))) else if (!decide (x7.2.2 ∈ hkeys s5.1)) = true then Let ((hput s5.1 x7.2.2 true) : (List (YPath × Bool))) fun met13 => Let ((s5.2 ++ [((s5.2.getD s2.2.2 []) ++ [x7.2.2])]) : (List (List YPath))) fun rows14 => (.nx (met13, rows14)) else (.nx (s5.1, s5.2)) else (.nx (s5.1, s5.2)) : Ou (Option (List YPath)) ((List (YPath × Bool)) × (List (List YPath))))) refs (s2.1, s2.2.1)) Ou.rt fun (s5 : ((List (YPath × Bool)) × (List (List YPath)))) => Let ((s2.2.2 + 1) : Nat) fun at15 => (.nx (s5.1, s5.2, at15)) : Ou (Option (List YPath)) ((List (YPath × Bool)) × (List (List YPath)) × Nat)))) (fun (s2 : ((List (YPath × Bool)) × (List (List YPath)) × Nat)) => RfI refs first s2.1 s2.2.1 s2.2.2) (fun (s2 : ((List (YPath × Bool)) × (List (List YPath)) × Nat)) => 301 - s2.2.2) (inj := id) pr_out leT (by rw [hrows1]; exact rfI_0) (by omega) scT (fun s2 hI3 => (tj_cmp (p := (decide (s2.2.2 < s2.2.1.length))) (da := (eN s2.2.2)) (db := (eN s2.2.1.length)) (ev_fz (i := 4) rfl) (ev_lenL (enc := (eT yPath)) (xs := s2.2.1) (ev_ow (i := 2) rfl)) gLt_nn)) (fun s2 hI3 hc4 => ?_) (fun s2 s_ hI3 hc4 hs_ => by (have q_ := rf_out (s := s2) hI3 (of_decide_eq_true hc4); rcases hs_ with z_ | z_ <;> (have q2_ := q_; rw [show rfOut refs first s2 = _ from z_] at q2_; first | (exact q2_.elim; done) | (refine ⟨q2_.1, ?_⟩; have h1_ := q2_.2; have h2_ := of_decide_eq_true hc4; have h3_ := (hI3).2.le; omega)))) (fun s2 hI3 => ?_)
  · show Sg [.fz ((eT yRef) refs), .fz (yPath first), .ow ((eL (eT yPath)) s2.2.1), .ow ((eTd yPath eB) s2.1), .fz (eN s2.2.2), .any, .any, .any] _ _ _
    refine sg_forO (step := (fun (s5 : ((List (YPath × Bool)) × (List (List YPath)))) (x7 : YRef) => (if (decide (x7.1 = ((s5.2.getD s2.2.2 []).getLastD []))) = true then if (decide (x7.2.2 = first)) = true then (.rt (some (s5.2.getD s2.2.2 []))) else if (!decide (x7.2.2 ∈ hkeys s5.1)) = true then Let ((hput s5.1 x7.2.2 true) : (List (YPath × Bool))) fun met13 => Let ((s5.2 ++ [((s5.2.getD s2.2.2 []) ++ [x7.2.2])]) : (List (List YPath))) fun rows14 => (.nx (met13, rows14)) else (.nx (s5.1, s5.2)) else (.nx (s5.1, s5.2)) : Ou (Option (List YPath)) ((List (YPath × Bool)) × (List (List YPath)))))) (inj := Ou.rt) (hP := po_out) (enc := yRef) (xs := refs) (s0 := (s2.1, s2.2.1)) (fun (s5 : ((List (YPath × Bool)) × (List (List YPath)))) => [.fz ((eT yRef) refs), .fz (yPath first), .ow ((eL (eT yPath)) s5.2), .ow ((eTd yPath eB) s5.1), .fz (eN s2.2.2), .any, .any, .any]) (fun (k : Nat) (s5 : ((List (YPath × Bool)) × (List (List YPath)))) => RfJ refs first s2.2.2 k s5.1 s5.2)  (ew_val (d := ((eT yRef) refs)) (ev_fz (i := 0) rfl) rfl) leT (by exact ⟨bfJ_0 hI3.1 (of_decide_eq_true (by assumption)), hI3.2⟩) (fun k6 x7 s5 hk8 hI9 => ⟨_, (tg_t (tg_cons tg_n (tg_cons tg_n (tg_cons tg_n tg_nil)))), ?_⟩) (by intro k6 x7 s5 s_ hk8 hI9 hs_; (have q_ := rf_in (s := s5) hI9 hk8; rcases hs_ with z_ | z_ <;> (have q2_ : match rfIn first s2.2.2 s5 x7 with | .nx s' => RfJ refs first s2.2.2 (k6 + 1) s'.1 s'.2 | .bk _ => False | .rt v => _ := q_; rw [show rfIn first s2.2.2 s5 x7 = _ from z_] at q2_; first | exact q2_ | exact q2_.elim))) (fun s5 hI9 => ?_)
    · show Sg [.fz ((eT yRef) refs), .fz (yPath first), .ow ((eL (eT yPath)) s5.2), .ow ((eTd yPath eB) s5.1), .fz (eN s2.2.2), .fz (yPath x7.1), .fz (eN x7.2.1), .fz (yPath x7.2.2)] _ _ _
      have hlthk8 := lt_of_get hk8
      have hmhk8 := List.mem_of_getElem? hk8
      have hb1_ := hI9.1.a
      have hb2_ := hI9.2.le
      have hb3_ := hI9.1.b.f _ (getD_mem' [] hb1_)
      have hb4_ := hI9.1.b.ix _ hb1_
      refine sg_last ?_
      refine sg_if (tj_cmp (p := (decide (x7.1 = ((s5.2.getD s2.2.2 []).getLastD [])))) (da := (yPath x7.1)) (db := (yPath ((s5.2.getD s2.2.2 []).getLastD []))) (ev_fz (i := 5) rfl) (ev_ixTZ [] (enc := yPath) (xs := (s5.2.getD s2.2.2 [])) (ev_ixLN [] (enc := (eT yPath)) (xs := s5.2) (p := s2.2.2) (ev_ow (i := 2) rfl) (ev_fz (i := 4) rfl) (by first | exact scQ | exact hb1_ | exact hb3_.ne | (simp only [List.length_cons, List.length_nil]; omega) | omega | exact scT /-1-/)) (ev_negI ev_C) (by first | exact scQ | exact hb1_ | exact hb3_.ne | (simp only [List.length_cons, List.length_nil]; omega) | omega | exact scT /-2-/)) (gEq_g (gd_tl (gd_str (n := 0))))) (fun hc10 => ?_) (fun hc10 => ?_)
      · show Sg [.fz ((eT yRef) refs), .fz (yPath first), .ow ((eL (eT yPath)) s5.2), .ow ((eTd yPath eB) s5.1), .fz (eN s2.2.2), .fz (yPath x7.1), .fz (eN x7.2.1), .fz (yPath x7.2.2)] _ _ _
        refine sg_assoc ?_
        refine sg_if (tj_cmp (p := (decide (x7.2.2 = first))) (da := (yPath x7.2.2)) (db := (yPath first)) (ev_fz (i := 7) rfl) (ev_fz (i := 1) rfl) (gEq_g (gd_tl (gd_str (n := 0))))) (fun hc11 => ?_) (fun hc11 => ?_)
        · show Sg [.fz ((eT yRef) refs), .fz (yPath first), .ow ((eL (eT yPath)) s5.2), .ow ((eTd yPath eB) s5.1), .fz (eN s2.2.2), .fz (yPath x7.1), .fz (eN x7.2.1), .fz (yPath x7.2.2)] _ _ _
          exact sg_retO (v := (some (s5.2.getD s2.2.2 []))) (ev_ixLN [] (enc := (eT yPath)) (xs := s5.2) (p := s2.2.2) (ev_ow (i := 2) rfl) (ev_fz (i := 4) rfl) (by first | exact scQ | exact hb1_ | exact hb3_.ne | (simp only [List.length_cons, List.length_nil]; omega) | omega | exact scT /-3-/)) leT roT
        · show Sg [.fz ((eT yRef) refs), .fz (yPath first), .ow ((eL (eT yPath)) s5.2), .ow ((eTd yPath eB) s5.1), .fz (eN s2.2.2), .fz (yPath x7.1), .fz (eN x7.2.1), .fz (yPath x7.2.2)] _ _ _
          refine sg_skip ?_
          refine sg_if (tj_cmp (p := (!decide (x7.2.2 ∈ hkeys s5.1))) (da := (yPath x7.2.2)) (db := ((eTd yPath eB) s5.1)) (ev_fz (i := 7) rfl) (ev_ow (i := 3) rfl) (gNotIn_td (tk_T (nk_s (n := 0))))) (fun hc12 => ?_) (fun hc12 => ?_)
          · show Sg [.fz ((eT yRef) refs), .fz (yPath first), .ow ((eL (eT yPath)) s5.2), .ow ((eTd yPath eB) s5.1), .fz (eN s2.2.2), .fz (yPath x7.1), .fz (eN x7.2.1), .fz (yPath x7.2.2)] _ _ _
            refine sg_assoc ?_
            refine sg_putT (ek := yPath) (ev := eB) (kvs := s5.1) (x := x7.2.2) (v := true) (tk_T (nk_s (n := 0))) ev_C (ev_fz (i := 7) rfl) rfl rfl (by first | exact scQ | exact hb1_ | exact hb3_.ne | (simp only [List.length_cons, List.length_nil]; omega) | omega | exact scT /-4-/) ?_
            refine sg_gen (fun met13 : (List (YPath × Bool)) => [.fz ((eT yRef) refs), .fz (yPath first), .ow ((eL (eT yPath)) s5.2), .ow ((eTd yPath eB) met13), .fz (eN s2.2.2), .fz (yPath x7.1), .fz (eN x7.2.1), .fz (yPath x7.2.2)]) (x := (hput s5.1 x7.2.2 true)) fun met13 hmet13 => ?_
            refine sg_drop (ev_app (enc := (eT yPath)) (xs := s5.2) (x := ((s5.2.getD s2.2.2 []) ++ [x7.2.2])) rfl (ev_addT (enc := yPath) (xs := (s5.2.getD s2.2.2 [])) (ys := [x7.2.2]) (ev_ixLN [] (enc := (eT yPath)) (xs := s5.2) (p := s2.2.2) (ev_ow (i := 2) rfl) (ev_fz (i := 4) rfl) (by first | exact scQ | exact hb1_ | exact hb3_.ne | (simp only [List.length_cons, List.length_nil]; omega) | omega | exact scT /-5-/)) (ev_tup (ea_cons (da := (yPath x7.2.2)) (ev_fz (i := 7) rfl) ea_nil)) (by first | exact scQ | exact hb1_ | exact hb3_.ne | (simp only [List.length_cons, List.length_nil]; omega) | omega | exact scT /-6-/)) rfl (by first | exact scQ | exact hb1_ | exact hb3_.ne | (simp only [List.length_cons, List.length_nil]; omega) | omega | exact scT /-7-/)) ?_
            refine sg_gen (fun rows14 : (List (List YPath)) => [.fz ((eT yRef) refs), .fz (yPath first), .ow ((eL (eT yPath)) rows14), .ow ((eTd yPath eB) met13), .fz (eN s2.2.2), .fz (yPath x7.1), .fz (eN x7.2.1), .fz (yPath x7.2.2)]) (x := (s5.2 ++ [((s5.2.getD s2.2.2 []) ++ [x7.2.2])])) fun rows14 hrows14 => ?_
            exact sg_passO leT
          · show Sg [.fz ((eT yRef) refs), .fz (yPath first), .ow ((eL (eT yPath)) s5.2), .ow ((eTd yPath eB) s5.1), .fz (eN s2.2.2), .fz (yPath x7.1), .fz (eN x7.2.1), .fz (yPath x7.2.2)] _ _ _
            refine sg_skip ?_
            exact sg_passO leT
      · show Sg [.fz ((eT yRef) refs), .fz (yPath first), .ow ((eL (eT yPath)) s5.2), .ow ((eTd yPath eB) s5.1), .fz (eN s2.2.2), .fz (yPath x7.1), .fz (eN x7.2.1), .fz (yPath x7.2.2)] _ _ _
        refine sg_skip ?_
        exact sg_passO leT
    show Sg [.fz ((eT yRef) refs), .fz (yPath first), .ow ((eL (eT yPath)) s5.2), .ow ((eTd yPath eB) s5.1), .fz (eN s2.2.2), .any, .any, .any] _ _ _
    refine sg_last ?_
    refine sg_aug (da := (eN s2.2.2)) (d := (eN 1)) (dn := eN (s2.2.2 + 1)) rfl ev_C gIAdd_nn ?_
    refine sg_gen (fun at15 : Nat => [.fz ((eT yRef) refs), .fz (yPath first), .ow ((eL (eT yPath)) s5.2), .ow ((eTd yPath eB) s5.1), .fz (eN at15), .any, .any, .any]) (x := (s2.2.2 + 1)) fun at15 hat15 => ?_
    exact sg_passO leT
  show Sg [.fz ((eT yRef) refs), .fz (yPath first), .ow ((eL (eT yPath)) s2.2.1), .ow ((eTd yPath eB) s2.1), .fz (eN s2.2.2), .any, .any, .any] _ _ _
  refine sg_last ?_
  exact sg_ret (v := none) ev_C leT roT
def T_ref_ring (body : YBody) : (Option (List YPath)) :=
  Let ((T_refs_of body) : (List YRef)) fun refs1 => Let (List.foldl (fun (s2 : ((Option (List YPath)))) (path4 : YPath) => Let ((T_ring_from refs1 path4) : (Option (List YPath))) fun ring7 => if ((!ring7.isNone) && (s2.isNone || (decide ((ring7.getD []).length < (s2.getD []).length)))) = true then ring7 else s2) none (T_all_paths 5 body)) fun (s2 : ((Option (List YPath)))) => s2
theorem tv_ref_ring (body : YBody) (hW : WfB PL LV body) (hs : szB body ≤ 100) : Ev [.fz (yBody body)] f_ref_ring .val ((eO (eT yPath)) (T_ref_ring body)) [.fz (yBody body)] := by
  have hd_ : lvB body < 5 := Nat.lt_of_le_of_lt (wfB_lv hW) (by decide)
  have hs1_ : szB body ≤ 1000 := by omega
  have hrl_ := refs_len hd_ hW hs
  unfold f_ref_ring
  refine ev_run (n := 1) (enc := (eO (eT yPath))) (outs := (fun p_ : (Option (List YPath)) => [.fz (yBody body), .any, .any, .any, .any])) (v := T_ref_ring body) ?_
  unfold b_ref_ring T_ref_ring
  show Sg [.fz (yBody body), .any, .any, .any, .any] _ _ _
  refine sg_set (d := ((eT yRef) (T_refs_of body))) (ev_call (tv_refs_of body (by first | exact scQ | exact ⟨hd_, hs1_, by decide⟩ | exact hr_ | exact scT /-1-/) (by first | exact scQ | exact ⟨hd_, hs1_, by decide⟩ | exact hr_ | exact scT /-2-/)) (ea_cons (da := (yBody body)) (ev_fz (i := 0) rfl) ea_nil) rdT) ?_
  refine sg_gen (fun refs1 : (List YRef) => [.fz (yBody body), .fz ((eT yRef) refs1), .any, .any, .any]) (x := (T_refs_of body)) fun refs1 hrefs1 => ?_
  have hr_ : refs1.length ≤ 300 := by rw [hrefs1]; exact hrl_
  refine sg_set (d := ((eO (eT yPath)) none)) ev_C ?_
  show Sg [.fz (yBody body), .fz ((eT yRef) refs1), .fz ((eO (eT yPath)) none), .any, .any] _ _ _
  refine sg_for (step := (fun (s2 : ((Option (List YPath)))) (path4 : YPath) => Let ((T_ring_from refs1 path4) : (Option (List YPath))) fun ring7 => if ((!ring7.isNone) && (s2.isNone || (decide ((ring7.getD []).length < (s2.getD []).length)))) = true then ring7 else s2)) (enc := yPath) (xs := (T_all_paths 5 body)) (s0 := none) (fun (s2 : ((Option (List YPath)))) => [.fz (yBody body), .fz ((eT yRef) refs1), .fz ((eO (eT yPath)) s2), .any, .any]) (fun _ _ => True) (ew_val (d := ((eT yPath) (T_all_paths 5 body))) (ev_call (tv_all_paths 5 body (by first | exact scQ | exact ⟨hd_, hs1_, by decide⟩ | exact hr_ | exact scT /-3-/)) (ea_cons (da := (yBody body)) (ev_fz (i := 0) rfl) ea_nil) rdT) rfl) leT trivial (fun k3 path4 s2 hk5 hI6 => ⟨_, tg_n, ?_⟩) (fun _ _ _ _ _ => trivial) (fun s2 hs2 hI6 => ?_)
  · show Sg [.fz (yBody body), .fz ((eT yRef) refs1), .fz ((eO (eT yPath)) s2), .fz (yPath path4), .any] _ _ _
    have hlthk5 := lt_of_get hk5
    have hmhk5 := List.mem_of_getElem? hk5
    refine sg_set (d := ((eO (eT yPath)) (T_ring_from refs1 path4))) (ev_call (tv_ring_from refs1 path4 (by first | exact scQ | exact ⟨hd_, hs1_, by decide⟩ | exact hr_ | exact scT /-4-/)) (ea_cons (da := ((eT yRef) refs1)) (ev_fz (i := 1) rfl) (ea_cons (da := (yPath path4)) (ev_fz (i := 3) rfl) ea_nil)) rdT) ?_
    refine sg_gen (fun ring7 : (Option (List YPath)) => [.fz (yBody body), .fz ((eT yRef) refs1), .fz ((eO (eT yPath)) s2), .fz (yPath path4), .fz ((eO (eT yPath)) ring7)]) (x := (T_ring_from refs1 path4)) fun ring7 hring7 => ?_
    refine sg_last ?_
    refine sg_if (tj_and (p := (!ring7.isNone)) (q := (s2.isNone || (decide ((ring7.getD []).length < (s2.getD []).length)))) (tj_cmp (p := (!ring7.isNone)) (da := ((eO (eT yPath)) ring7)) (db := PyData.none) (ev_fz (i := 4) rfl) ev_C (gIsNot_O (fun _ => rfl))) (fun hb8 => (tj_or (p := s2.isNone) (q := (decide ((ring7.getD []).length < (s2.getD []).length))) (tj_cmp (p := s2.isNone) (da := ((eO (eT yPath)) s2)) (db := PyData.none) (ev_fz (i := 2) rfl) ev_C (gIs_O (fun _ => rfl))) (fun hb9 => (tj_cmp (p := (decide ((ring7.getD []).length < (s2.getD []).length))) (da := (eN ((ring7.getD []).length))) (db := (eN ((s2.getD []).length))) (ev_lenT (enc := yPath) (xs := (ring7.getD [])) (Ev.eq (ev_fz (i := 4) rfl) (eO_get [] (by first | exact scQ | exact ⟨hd_, hs1_, by decide⟩ | exact hr_ | exact scT /-5-/)))) (ev_lenT (enc := yPath) (xs := (s2.getD [])) (Ev.eq (ev_fz (i := 2) rfl) (eO_get [] (by first | exact scQ | exact ⟨hd_, hs1_, by decide⟩ | exact hr_ | exact scT /-6-/)))) gLt_nn))))) (fun hc10 => ?_) (fun hc10 => ?_)
    · show Sg [.fz (yBody body), .fz ((eT yRef) refs1), .fz ((eO (eT yPath)) s2), .fz (yPath path4), .fz ((eO (eT yPath)) ring7)] _ _ _
      refine sg_set (d := ((eO (eT yPath)) ring7)) (ev_fz (i := 4) rfl) ?_
      show Sg [.fz (yBody body), .fz ((eT yRef) refs1), .fz ((eO (eT yPath)) ring7), .fz (yPath path4), .fz ((eO (eT yPath)) ring7)] _ _ _
      exact sg_passN leT
    · show Sg [.fz (yBody body), .fz ((eT yRef) refs1), .fz ((eO (eT yPath)) s2), .fz (yPath path4), .fz ((eO (eT yPath)) ring7)] _ _ _
      refine sg_skip ?_
      exact sg_passN leT
  show Sg [.fz (yBody body), .fz ((eT yRef) refs1), .fz ((eO (eT yPath)) s2), .any, .any] _ _ _
  refine sg_last ?_
  exact sg_ret (v := s2) (ev_fz (i := 2) rfl) leT roT
def T__law_body : Nat → List Int → Nat → Int → (List OkS) → (YBody × Nat)
  | 0, _, _, _, _ => ([], 0)
  | d + 1, ds, i_w, deep, words =>
  Let (([] : (List Nd)) : (List Nd)) fun found1 => Let (List.foldl (fun (s2 : ((List Nd) × Nat)) (label4 : OkS) => if ((decide ((1 : Int) < (nx ds s2.2 (5 : Int)))) || ((decide ((1 : Int) < deep)) && (decide (label4 = (okS "1"))))) = true then Let ((mapS (fun (i10 : Nat) (k11 : Nat) => ((pkT ds i10 words dS0), i10 + 1)) (s2.2 + 1 + 1) (List.range (nx ds (s2.2 + 1) (4 : Int)).toNat)).1 : (List OkS)) fun own14 => Let ((mapS (fun (i10 : Nat) (k11 : Nat) => ((pkT ds i10 words dS0), i10 + 1)) (s2.2 + 1 + 1) (List.range (nx ds (s2.2 + 1) (4 : Int)).toNat)).2 : Nat) fun i15 => Let ((s2.1 ++ [(Nd.mk label4 own14 (if ((decide ((0 : Int) < deep)) && (decide ((nx ds i15 (2 : Int)) = (0 : Int)))) = true then (T__law_body d ds (if (decide ((0 : Int) < deep)) = true then i15 + 1 else i15) (deep - (1 : Int)) words).1 else []))]) : (List Nd)) fun found20 => Let ((if ((decide ((0 : Int) < deep)) && (decide ((nx ds i15 (2 : Int)) = (0 : Int)))) = true then (T__law_body d ds (if (decide ((0 : Int) < deep)) = true then i15 + 1 else i15) (deep - (1 : Int)) words).2 else (if (decide ((0 : Int) < deep)) = true then i15 + 1 else i15)) : Nat) fun i21 => (found20, i21) else (s2.1, s2.2 + 1)) (found1, i_w) ([(okS "1"), (okS "2"), (okS "2a"), (okS "3")] : (List OkS))) fun (s2 : ((List Nd) × Nat)) => (s2.1, s2.2)
theorem tv__law_body : ∀ (d : Nat) (ds : List Int) (i_w : Nat) (deep : Int) (words : (List OkS)) (hd : 0 ≤ deep ∧ deep < d ∧ d ≤ 6) (hw : words = WDS), Ev [.ow (Wd ds ((i_w : Nat) : Int)), .fz (eI deep), .rd ((eL eS) words)] (f__law_body d) .val ((fun p_ : (YBody × Nat) => yBody p_.1) (T__law_body d ds i_w deep words)) [.ow (Wd ds (((T__law_body d ds i_w deep words).2 : Nat) : Int)), .fz (eI deep), .rd ((eL eS) words)] := by
  intro d
  induction d with
  | zero => intro ds i_w deep words hd hw; exact absurd hd.2.1 (by have := hd.1; omega)
  | succ d ih_self =>
  intro ds i_w deep words hd hw
  have hd1 := hd.1
  have hd2 := hd.2.1
  have hd3 := hd.2.2
  unfold f__law_body
  refine ev_run (n := 3) (enc := (fun p_ : (YBody × Nat) => yBody p_.1)) (outs := (fun p_ : (YBody × Nat) => [.ow (Wd ds ((p_.2 : Nat) : Int)), .fz (eI deep), .rd ((eL eS) words), .any, .any, .any, .any])) (v := T__law_body (d + 1) ds i_w deep words) ?_
  unfold b__law_body T__law_body
  show Sg [.ow (Wd ds ((i_w : Nat) : Int)), .fz (eI deep), .rd ((eL eS) words), .any, .any, .any, .any] _ _ _
  refine sg_set (d := ((eL eNd) ([] : (List Nd)))) (ev_lst ea_nil) ?_
  refine sg_gen (fun found1 : (List Nd) => [.ow (Wd ds ((i_w : Nat) : Int)), .fz (eI deep), .rd ((eL eS) words), .ow ((eL eNd) found1), .any, .any, .any]) (x := ([] : (List Nd))) fun found1 hfound1 => ?_
  refine sg_for (step := (fun (s2 : ((List Nd) × Nat)) (label4 : OkS) => if ((decide ((1 : Int) < (nx ds s2.2 (5 : Int)))) || ((decide ((1 : Int) < deep)) && (decide (label4 = (okS "1"))))) = true then Let ((mapS (fun (i10 : Nat) (k11 : Nat) => ((pkT ds i10 words dS0), i10 + 1)) (s2.2 + 1 + 1) (List.range (nx ds (s2.2 + 1) (4 : Int)).toNat)).1 : (List OkS)) fun own14 => Let ((mapS (fun (i10 : Nat) (k11 : Nat) => ((pkT ds i10 words dS0), i10 + 1)) (s2.2 + 1 + 1) (List.range (nx ds (s2.2 + 1) (4 : Int)).toNat)).2 : Nat) fun i15 => Let ((s2.1 ++ [(Nd.mk label4 own14 (if ((decide ((0 : Int) < deep)) && (decide ((nx ds i15 (2 : Int)) = (0 : Int)))) = true then (T__law_body d ds (if (decide ((0 : Int) < deep)) = true then i15 + 1 else i15) (deep - (1 : Int)) words).1 else []))]) : (List Nd)) fun found20 => Let ((if ((decide ((0 : Int) < deep)) && (decide ((nx ds i15 (2 : Int)) = (0 : Int)))) = true then (T__law_body d ds (if (decide ((0 : Int) < deep)) = true then i15 + 1 else i15) (deep - (1 : Int)) words).2 else (if (decide ((0 : Int) < deep)) = true then i15 + 1 else i15)) : Nat) fun i21 => (found20, i21) else (s2.1, s2.2 + 1))) (enc := eS) (xs := ([(okS "1"), (okS "2"), (okS "2a"), (okS "3")] : (List OkS))) (s0 := (found1, i_w)) (fun (s2 : ((List Nd) × Nat)) => [.ow (Wd ds ((s2.2 : Nat) : Int)), .fz (eI deep), .rd ((eL eS) words), .ow ((eL eNd) s2.1), .any, .any, .any]) (fun (k : Nat) (s2 : ((List Nd) × Nat)) => s2.1.length ≤ k) (ew_new (d := ((eL eS) ([(okS "1"), (okS "2"), (okS "2a"), (okS "3")] : (List OkS)))) (ev_lst (ea_cons (da := (eS (okS "1"))) ev_C (ea_cons (da := (eS (okS "2"))) ev_C (ea_cons (da := (eS (okS "2a"))) ev_C (ea_cons (da := (eS (okS "3"))) ev_C ea_nil))))) rfl) leT (by rw [hfound1]; exact Nat.zero_le _) (fun k3 label4 s2 hk5 hI6 => ⟨_, tg_n, ?_⟩) (by intro k3 label4 s2 hk5 hI6; (unfold Let; dsimp only; split; (rw [List.length_append]; exact Nat.succ_le_succ hI6); exact Nat.le_succ_of_le hI6)) (fun s2 hs2 hI6 => ?_)
  · show Sg [.ow (Wd ds ((s2.2 : Nat) : Int)), .fz (eI deep), .rd ((eL eS) words), .ow ((eL eNd) s2.1), .fz (eS label4), .any, .any] _ _ _
    have hlthk5 := lt_of_get hk5
    have hmhk5 := List.mem_of_getElem? hk5
    have hlk_ := hlthk5
    simp only [List.length_cons, List.length_nil] at hlk_
    refine sg_last ?_
    have bx1 := nx_bd ds s2.2 (5 : Int) scT
    refine sg_if (tj_or (p := (decide ((1 : Int) < (nx ds s2.2 (5 : Int))))) (q := ((decide ((1 : Int) < deep)) && (decide (label4 = (okS "1"))))) (tj_as [.ow (Wd ds ((s2.2 + 1 : Nat) : Int)), .fz (eI deep), .rd ((eL eS) words), .ow ((eL eNd) s2.1), .fz (eS label4), .any, .any] (tj_cmp (p := (decide ((1 : Int) < (nx ds s2.2 (5 : Int))))) (da := (eI (nx ds s2.2 (5 : Int)))) (db := (eI (1 : Int))) (ev_call (tv_next ds s2.2 (5 : Int) (by first | exact scQ | (rw [hw]; exact List.cons_ne_nil _ _) | omega | (have h_ := and1 (by assumption); have h2_ := of_decide_eq_true h_; exact ⟨by omega, by omega, by omega⟩) | exact hw | exact scT /-1-/)) (ea_consO (i := 0) rfl (ea_cons (da := .int (5 : Int)) ev_C ea_nil)) rdT) ev_C gGt_ii)) (fun hb7 => (tj_and (p := (decide ((1 : Int) < deep))) (q := (decide (label4 = (okS "1")))) (tj_cmp (p := (decide ((1 : Int) < deep))) (da := (eI deep)) (db := (eI (1 : Int))) (ev_fz (i := 1) rfl) ev_C gGt_ii) (fun hb8 => (tj_cmp (p := (decide (label4 = (okS "1")))) (da := (eS label4)) (db := (eS (okS "1"))) (ev_fz (i := 4) rfl) ev_C (gEq_g (gd_str (n := 0)))))))) (fun hc9 => ?_) (fun hc9 => ?_)
    · show Sg [.ow (Wd ds ((s2.2 + 1 : Nat) : Int)), .fz (eI deep), .rd ((eL eS) words), .ow ((eL eNd) s2.1), .fz (eS label4), .any, .any] _ _ _
      refine sg_assoc ?_
      have bx2 := nx_bd ds (s2.2 + 1) (4 : Int) scT
      refine sg_set (d := ((eT eS) ((mapS (fun (i10 : Nat) (k11 : Nat) => ((pkT ds i10 words dS0), i10 + 1)) (s2.2 + 1 + 1) (List.range (nx ds (s2.2 + 1) (4 : Int)).toNat)).1))) (ev_tupL (enc := eS) (xs := (mapS (fun (i10 : Nat) (k11 : Nat) => ((pkT ds i10 words dS0), i10 + 1)) (s2.2 + 1 + 1) (List.range (nx ds (s2.2 + 1) (4 : Int)).toNat)).1) (ev_lcS (enc := eN) (encB := eS) (Eσ := fun (i10 : Nat) => [.ow (Wd ds ((i10 : Nat) : Int)), .fz (eI deep), .rd ((eL eS) words), .ow ((eL eNd) s2.1), .fz (eS label4), .any, .any]) (s0 := s2.2 + 1 + 1) (xs := (List.range (nx ds (s2.2 + 1) (4 : Int)).toNat)) (fe := (fun (i10 : Nat) (k11 : Nat) => ((pkT ds i10 words dS0), i10 + 1))) (ew_rgI (x := (nx ds (s2.2 + 1) (4 : Int))) (ev_call (tv_next ds (s2.2 + 1) (4 : Int) (by first | exact scQ | (rw [hw]; exact List.cons_ne_nil _ _) | omega | (have h_ := and1 (by assumption); have h2_ := of_decide_eq_true h_; exact ⟨by omega, by omega, by omega⟩) | exact hw | exact scT /-2-/)) (ea_consO (i := 0) rfl (ea_cons (da := .int (4 : Int)) ev_C ea_nil)) rdT) (by first | exact scQ | (rw [hw]; exact List.cons_ne_nil _ _) | omega | (have h_ := and1 (by assumption); have h2_ := of_decide_eq_true h_; exact ⟨by omega, by omega, by omega⟩) | exact hw | exact scT /-3-/) (by first | exact scQ | (rw [hw]; exact List.cons_ne_nil _ _) | omega | (have h_ := and1 (by assumption); have h2_ := of_decide_eq_true h_; exact ⟨by omega, by omega, by omega⟩) | exact hw | exact scT /-4-/)) (by first | exact scQ | (rw [hw]; exact List.cons_ne_nil _ _) | omega | (have h_ := and1 (by assumption); have h2_ := of_decide_eq_true h_; exact ⟨by omega, by omega, by omega⟩) | exact hw | exact scT /-6-/) (by intro _ _; rfl) (by intro _ _ i_ h_; simp at h_; subst h_; rfl) (fun k11 hx12 i10 => ⟨_, tg_n, _, _, (ev_call (tv_pickL dS0 ds i10 words eS (by first | exact scQ | (rw [hw]; exact List.cons_ne_nil _ _) | omega | (have h_ := and1 (by assumption); have h2_ := of_decide_eq_true h_; exact ⟨by omega, by omega, by omega⟩) | exact hw | exact scT /-5-/)) (ea_consO (i := 0) rfl (ea_cons (da := ((eL eS) words)) (ev_rd (i := 2) rfl) ea_nil)) rdT), leT⟩))) ?_
      refine sg_gen (fun own14 : (List OkS) => [.ow (Wd ds (((mapS (fun (i10 : Nat) (k11 : Nat) => ((pkT ds i10 words dS0), i10 + 1)) (s2.2 + 1 + 1) (List.range (nx ds (s2.2 + 1) (4 : Int)).toNat)).2 : Nat) : Int)), .fz (eI deep), .rd ((eL eS) words), .ow ((eL eNd) s2.1), .fz (eS label4), .fz ((eT eS) own14), .any]) (x := (mapS (fun (i10 : Nat) (k11 : Nat) => ((pkT ds i10 words dS0), i10 + 1)) (s2.2 + 1 + 1) (List.range (nx ds (s2.2 + 1) (4 : Int)).toNat)).1) fun own14 hown14 => ?_
      refine sg_gen (fun i15 : Nat => [.ow (Wd ds ((i15 : Nat) : Int)), .fz (eI deep), .rd ((eL eS) words), .ow ((eL eNd) s2.1), .fz (eS label4), .fz ((eT eS) own14), .any]) (x := (mapS (fun (i10 : Nat) (k11 : Nat) => ((pkT ds i10 words dS0), i10 + 1)) (s2.2 + 1 + 1) (List.range (nx ds (s2.2 + 1) (4 : Int)).toNat)).2) fun i15 hi15 => ?_
      have bx7 := nx_bd ds i15 (2 : Int) scT
      refine sg_drop (ev_app (enc := eNd) (xs := s2.1) (x := (Nd.mk label4 own14 (if ((decide ((0 : Int) < deep)) && (decide ((nx ds i15 (2 : Int)) = (0 : Int)))) = true then (T__law_body d ds (if (decide ((0 : Int) < deep)) = true then i15 + 1 else i15) (deep - (1 : Int)) words).1 else []))) rfl (Ev.eq (ev_tup (ea_cons (da := (eS label4)) (ev_fz (i := 4) rfl) (ea_cons (da := ((eT eS) own14)) (ev_fz (i := 5) rfl) (ea_cons (da := (yBody (if ((decide ((0 : Int) < deep)) && (decide ((nx ds i15 (2 : Int)) = (0 : Int)))) = true then (T__law_body d ds (if (decide ((0 : Int) < deep)) = true then i15 + 1 else i15) (deep - (1 : Int)) words).1 else []))) (ev_ifS (enc := yBody) (x := (T__law_body d ds (if (decide ((0 : Int) < deep)) = true then i15 + 1 else i15) (deep - (1 : Int)) words).1) (y := []) (fun (i19 : Nat) => [.ow (Wd ds ((i19 : Nat) : Int)), .fz (eI deep), .rd ((eL eS) words), .ow ((eL eNd) s2.1), .fz (eS label4), .fz ((eT eS) own14), .any]) (s1 := (T__law_body d ds (if (decide ((0 : Int) < deep)) = true then i15 + 1 else i15) (deep - (1 : Int)) words).2) (s2 := (if (decide ((0 : Int) < deep)) = true then i15 + 1 else i15)) (tj_andS (p := (decide ((0 : Int) < deep))) (q := (decide ((nx ds i15 (2 : Int)) = (0 : Int)))) (fun (i17 : Nat) => [.ow (Wd ds ((i17 : Nat) : Int)), .fz (eI deep), .rd ((eL eS) words), .ow ((eL eNd) s2.1), .fz (eS label4), .fz ((eT eS) own14), .any]) (s1 := i15) (s2 := i15 + 1) (tj_cmp (p := (decide ((0 : Int) < deep))) (da := (eI deep)) (db := (eI (0 : Int))) (ev_fz (i := 1) rfl) ev_C gGt_ii) (fun hb16 => (tj_cmp (p := (decide ((nx ds i15 (2 : Int)) = (0 : Int)))) (da := (eI (nx ds i15 (2 : Int)))) (db := (eI (0 : Int))) (ev_call (tv_next ds i15 (2 : Int) (by first | exact scQ | (rw [hw]; exact List.cons_ne_nil _ _) | omega | (have h_ := and1 (by assumption); have h2_ := of_decide_eq_true h_; exact ⟨by omega, by omega, by omega⟩) | exact hw | exact scT /-7-/)) (ea_consO (i := 0) rfl (ea_cons (da := .int (2 : Int)) ev_C ea_nil)) rdT) ev_C gEq_ii))) (fun hb18 => (ev_call (ih_self ds (if (decide ((0 : Int) < deep)) = true then i15 + 1 else i15) (deep - (1 : Int)) words (by first | exact scQ | (rw [hw]; exact List.cons_ne_nil _ _) | omega | (have h_ := and1 (by assumption); have h2_ := of_decide_eq_true h_; exact ⟨by omega, by omega, by omega⟩) | exact hw | exact scT /-8-/) (by first | exact scQ | (rw [hw]; exact List.cons_ne_nil _ _) | omega | (have h_ := and1 (by assumption); have h2_ := of_decide_eq_true h_; exact ⟨by omega, by omega, by omega⟩) | exact hw | exact scT /-9-/)) (ea_consO (i := 0) rfl (ea_cons (da := (eI (deep - (1 : Int)))) (ev_subI (x := deep) (y := (1 : Int)) (ev_fz (i := 1) rfl) ev_C) (ea_cons (da := ((eL eS) words)) (ev_rd (i := 2) rfl) ea_nil))) rdT)) (fun hb18 => (ev_tup ea_nil))) ea_nil)))) (eNd_mk _ _ _).symm) rfl (by first | exact scQ | (rw [hw]; exact List.cons_ne_nil _ _) | omega | (have h_ := and1 (by assumption); have h2_ := of_decide_eq_true h_; exact ⟨by omega, by omega, by omega⟩) | exact hw | exact scT /-10-/)) ?_
      refine sg_gen (fun found20 : (List Nd) => [.ow (Wd ds (((if ((decide ((0 : Int) < deep)) && (decide ((nx ds i15 (2 : Int)) = (0 : Int)))) = true then (T__law_body d ds (if (decide ((0 : Int) < deep)) = true then i15 + 1 else i15) (deep - (1 : Int)) words).2 else (if (decide ((0 : Int) < deep)) = true then i15 + 1 else i15)) : Nat) : Int)), .fz (eI deep), .rd ((eL eS) words), .ow ((eL eNd) found20), .fz (eS label4), .fz ((eT eS) own14), .any]) (x := (s2.1 ++ [(Nd.mk label4 own14 (if ((decide ((0 : Int) < deep)) && (decide ((nx ds i15 (2 : Int)) = (0 : Int)))) = true then (T__law_body d ds (if (decide ((0 : Int) < deep)) = true then i15 + 1 else i15) (deep - (1 : Int)) words).1 else []))])) fun found20 hfound20 => ?_
      refine sg_gen (fun i21 : Nat => [.ow (Wd ds ((i21 : Nat) : Int)), .fz (eI deep), .rd ((eL eS) words), .ow ((eL eNd) found20), .fz (eS label4), .fz ((eT eS) own14), .any]) (x := (if ((decide ((0 : Int) < deep)) && (decide ((nx ds i15 (2 : Int)) = (0 : Int)))) = true then (T__law_body d ds (if (decide ((0 : Int) < deep)) = true then i15 + 1 else i15) (deep - (1 : Int)) words).2 else (if (decide ((0 : Int) < deep)) = true then i15 + 1 else i15))) fun i21 hi21 => ?_
      exact sg_passN leT
    · show Sg [.ow (Wd ds ((s2.2 + 1 : Nat) : Int)), .fz (eI deep), .rd ((eL eS) words), .ow ((eL eNd) s2.1), .fz (eS label4), .any, .any] _ _ _
      refine sg_skip ?_
      exact sg_passN leT
  show Sg [.ow (Wd ds ((s2.2 : Nat) : Int)), .fz (eI deep), .rd ((eL eS) words), .ow ((eL eNd) s2.1), .any, .any, .any] _ _ _
  refine sg_last ?_
  exact sg_ret (v := (s2.1, s2.2)) (ev_tupL (enc := eNd) (xs := s2.1) (ev_ow (i := 3) rfl)) leT roT
def T__law_node (body : YBody) (path : YPath) : (Option Nd) :=
  seqO (foldO (fun (s1 : ((Option Nd) × YBody)) (label3 : OkS) => (Let ((s1.2.filter (fun (node6 : Nd) => (decide (node6.lab = label3)))) : (List Nd)) fun able9 => if (able9.isEmpty) = true then (.rt none) else Let ((some (able9.getD 0 nd0)) : (Option Nd)) fun found11 => Let ((able9.getD 0 nd0).kids : YBody) fun body12 => (.nx (found11, body12)) : Ou (Option Nd) ((Option Nd) × YBody))) path (none, body)) id fun (s1 : ((Option Nd) × YBody)) => s1.1
theorem law_node_eq (b : List Nd) (p : List OkS) : T__law_node b p = nodeP b p := node_loop (fun s l => flt_cases s.2 l _ _) p none b
theorem tv__law_node (body : YBody) (path : YPath) (hs : szB body ≤ 1000) : Ev [.fz (yBody body), .fz (yPath path)] f__law_node .val ((eO eNd) (T__law_node body path)) [.any, .fz (yPath path)] := by
  unfold f__law_node
  refine ev_run (n := 2) (enc := (eO eNd)) (outs := (fun p_ : (Option Nd) => [.any, .fz (yPath path), .any, .any, .any, .any])) (v := T__law_node body path) ?_
  unfold b__law_node T__law_node
  show Sg [.fz (yBody body), .fz (yPath path), .any, .any, .any, .any] _ _ _
  refine sg_set (d := ((eO eNd) none)) ev_C ?_
  show Sg [.fz (yBody body), .fz (yPath path), .fz ((eO eNd) none), .any, .any, .any] _ _ _
  refine sg_forO (step := (fun (s1 : ((Option Nd) × YBody)) (label3 : OkS) => (Let ((s1.2.filter (fun (node6 : Nd) => (decide (node6.lab = label3)))) : (List Nd)) fun able9 => if (able9.isEmpty) = true then (.rt none) else Let ((some (able9.getD 0 nd0)) : (Option Nd)) fun found11 => Let ((able9.getD 0 nd0).kids : YBody) fun body12 => (.nx (found11, body12)) : Ou (Option Nd) ((Option Nd) × YBody)))) (inj := id) (hP := pr_out) (enc := eS) (xs := path) (s0 := (none, body)) (fun (s1 : ((Option Nd) × YBody)) => [.fz (yBody s1.2), .fz (yPath path), .fz ((eO eNd) s1.1), .any, .any, .any]) (fun (k : Nat) (s1 : ((Option Nd) × YBody)) => szB s1.2 ≤ 1000)  (ew_val (d := (yPath path)) (ev_fz (i := 1) rfl) rfl) leT (by exact hs) (fun k2 label3 s1 hk4 hI5 => ⟨_, tg_n, ?_⟩) (by intro k2 label3 s1 s_ hk4 hI5 hs_; (unfold Let at hs_; dsimp only at hs_; split at hs_ <;> rename_i hq <;> rcases hs_ with z | z <;> first | (cases z; done) | (cases z; exact mem_len (head_mem (by simpa using hq)) hI5))) (fun s1 hI5 => ?_)
  · show Sg [.fz (yBody s1.2), .fz (yPath path), .fz ((eO eNd) s1.1), .fz (eS label3), .any, .any] _ _ _
    have hlthk4 := lt_of_get hk4
    have hmhk4 := List.mem_of_getElem? hk4
    have hl_ := len_sz hI5
    refine sg_set (d := ((eL eNd) (s1.2.filter (fun (node6 : Nd) => (decide (node6.lab = label3)))))) (Ev.eq (ev_lc (enc := eNd) (encB := eNd) (xs := s1.2) (p := (fun (node6 : Nd) => (decide (node6.lab = label3)))) (fe := (fun (node6 : Nd) => node6)) (ew_val (d := (yBody s1.2)) (ev_fz (i := 0) rfl) rfl) (by first | exact scQ | exact List.length_pos_iff.mpr (by simp_all) | (rw [hfound11]; rfl) | exact scT /-1-/) (fun node6 hx7 => ⟨_, tg_n, (tj_cmp (p := (decide (node6.lab = label3))) (da := (eS node6.lab)) (db := (eS label3)) (ev_ixC (d := (eNd node6)) (d' := (eS node6.lab)) (ev_fz (i := 5) rfl) gIx_nd0) (ev_fz (i := 3) rfl) (gEqX_of (gEq_g (gd_str (n := 0))))), (fun _ => leT), fun hp8 => ⟨_, _, (ev_fz (i := 5) rfl), leT⟩⟩)) (map_id_e _ _)) ?_
    refine sg_gen (fun able9 : (List Nd) => [.fz (yBody s1.2), .fz (yPath path), .fz ((eO eNd) s1.1), .fz (eS label3), .ow ((eL eNd) able9), .any]) (x := (s1.2.filter (fun (node6 : Nd) => (decide (node6.lab = label3))))) fun able9 hable9 => ?_
    refine sg_if (tj_cmp (p := (able9.isEmpty)) (da := ((eL eNd) able9)) (db := ((eL eNd) ([] : (List Nd)))) (ev_ow (i := 4) rfl) (ev_lst ea_nil) (gEqX_nil_ (enc := eNd))) (fun hc10 => ?_) (fun hc10 => ?_)
    · show Sg [.fz (yBody s1.2), .fz (yPath path), .fz ((eO eNd) s1.1), .fz (eS label3), .ow ((eL eNd) able9), .any] _ _ _
      exact sg_retO (v := none) ev_C leT roT
    · show Sg [.fz (yBody s1.2), .fz (yPath path), .fz ((eO eNd) s1.1), .fz (eS label3), .ow ((eL eNd) able9), .any] _ _ _
      refine sg_skip ?_
      refine sg_last ?_
      refine sg_par (ea_cons (da := ((eO eNd) (some (able9.getD 0 nd0)))) (ev_ixLN nd0 (enc := eNd) (xs := able9) (p := 0) (ev_ow (i := 4) rfl) ev_C (by first | exact scQ | exact List.length_pos_iff.mpr (by simp_all) | (rw [hfound11]; rfl) | exact scT /-2-/)) (ea_cons (da := (yBody ((able9.getD 0 nd0).kids))) (ev_ixC (d := (eNd (able9.getD 0 nd0))) (d' := (yBody ((able9.getD 0 nd0).kids))) (ev_ixLN nd0 (enc := eNd) (xs := able9) (p := 0) (ev_ow (i := 4) rfl) ev_C (by first | exact scQ | exact List.length_pos_iff.mpr (by simp_all) | (rw [hfound11]; rfl) | exact scT /-3-/)) gIx_nd2) ea_nil)) rdT ?_
      refine sg_gen (fun found11 : (Option Nd) => [.fz (yBody ((able9.getD 0 nd0).kids)), .fz (yPath path), .fz ((eO eNd) found11), .fz (eS label3), .ow ((eL eNd) able9), .any]) (x := (some (able9.getD 0 nd0))) fun found11 hfound11 => ?_
      refine sg_gen (fun body12 : YBody => [.fz (yBody body12), .fz (yPath path), .fz ((eO eNd) found11), .fz (eS label3), .ow ((eL eNd) able9), .any]) (x := (able9.getD 0 nd0).kids) fun body12 hbody12 => ?_
      exact sg_passO leT
  show Sg [.fz (yBody s1.2), .fz (yPath path), .fz ((eO eNd) s1.1), .any, .any, .any] _ _ _
  refine sg_last ?_
  exact sg_ret (v := s1.1) (ev_fz (i := 2) rfl) leT roT
def T__law_paths : Nat → YBody → (List YPath)
  | 0, _ => []
  | d + 1, body =>
  Let (([] : (List YPath)) : (List YPath)) fun found1 => Let (List.foldl (fun (s2 : ((List YPath))) (x4 : Nd) => Let (((s2 ++ ([[x4.lab]] : (List YPath))) ++ ((T__law_paths d x4.kids).map (fun (path7 : YPath) => ([x4.lab] ++ path7)))) : (List YPath)) fun found10 => found10) found1 body) fun (s2 : ((List YPath))) => s2
theorem law_paths_eq : ∀ (d : Nat) (b : List Nd), lvB b < d → T__law_paths d b = prB b
  | 0, b, h => by omega
  | d + 1, b, h => by
    unfold T__law_paths Let
    dsimp only
    have e : ∀ (xs : List Nd) (acc : List (List OkS)), (∀ x ∈ xs, x ∈ b) → xs.foldl (fun s x => s ++ [[x.lab]] ++ (T__law_paths d x.kids).map fun p => [x.lab] ++ p) acc = acc ++ xs.flatMap prN := fun xs => by
      induction xs with
      | nil => intro acc _; simp
      | cons x xs ih =>
        intro acc hx
        rw [List.foldl_cons, ih _ fun y hy => hx y (by simp [hy]), List.flatMap_cons, prN_eq, law_paths_eq d x.kids (lv_kid (hx x (by simp)) h)]
        simp
    rw [prB_flat, e b [] (fun _ h => h), List.nil_append]
theorem law_paths_len {d : Nat} {b : List Nd} (h : lvB b < d) (hs : szB b ≤ 1000) : (T__law_paths d b).length ≤ 1000 := by rw [law_paths_eq d b h, prB_len]; exact hs
theorem law_paths_lv {d : Nat} {b : List Nd} (h : lvB b < d) {p : List OkS} (hp : p ∈ T__law_paths d b) : p.length ≤ d := by rw [law_paths_eq d b h] at hp; have := prB_lv (lvB b) (Nat.le_refl _) hp; omega
theorem tv__law_paths : ∀ (d : Nat) (body : YBody) (hd : lvB body < d ∧ szB body ≤ 1000 ∧ d ≤ 20), Ev [.fz (yBody body)] (f__law_paths d) .new ((eL yPath) (T__law_paths d body)) [.fz (yBody body)] := by
  intro d
  induction d with
  | zero => intro body hd; exact absurd hd.1 (Nat.not_lt_zero _)
  | succ d ih_self =>
  intro body hd
  unfold f__law_paths
  refine ev_run (n := 1) (enc := (eL yPath)) (outs := (fun p_ : (List YPath) => [.fz (yBody body), .any, .any, .any, .any, .any])) (v := T__law_paths (d + 1) body) ?_
  unfold b__law_paths T__law_paths
  show Sg [.fz (yBody body), .any, .any, .any, .any, .any] _ _ _
  refine sg_set (d := ((eL yPath) ([] : (List YPath)))) (ev_lst ea_nil) ?_
  refine sg_gen (fun found1 : (List YPath) => [.fz (yBody body), .ow ((eL yPath) found1), .any, .any, .any, .any]) (x := ([] : (List YPath))) fun found1 hfound1 => ?_
  refine sg_for (step := (fun (s2 : ((List YPath))) (x4 : Nd) => Let (((s2 ++ ([[x4.lab]] : (List YPath))) ++ ((T__law_paths d x4.kids).map (fun (path7 : YPath) => ([x4.lab] ++ path7)))) : (List YPath)) fun found10 => found10)) (enc := eNd) (xs := body) (s0 := found1) (fun (s2 : ((List YPath))) => [.fz (yBody body), .ow ((eL yPath) s2), .any, .any, .any, .any]) (fun (k : Nat) (s2 : ((List YPath))) => s2.length ≤ 1001 * k) (ew_val (d := (yBody body)) (ev_fz (i := 0) rfl) rfl) leT (by rw [hfound1]; simp) (fun k3 x4 s2 hk5 hI6 => ⟨_, (Tg.eq (eNd_un _).symm (tg_t (tg_cons tg_n (tg_cons tg_n (tg_cons tg_n tg_nil))))), ?_⟩) (by intro k3 x4 s2 hk5 hI6; (have hx3 := law_paths_len (lv_kid (List.mem_of_getElem? hk5) hd.1) (mem_len (List.mem_of_getElem? hk5) hd.2.1); unfold Let; dsimp only; simp only [List.length_append, List.length_map, List.length_cons, List.length_nil]; omega)) (fun s2 hs2 hI6 => ?_)
  · show Sg [.fz (yBody body), .ow ((eL yPath) s2), .fz (eS x4.lab), .fz ((eT eS) x4.words), .fz (yBody x4.kids), .any] _ _ _
    have hlthk5 := lt_of_get hk5
    have hmhk5 := List.mem_of_getElem? hk5
    have hx1 := lv_kid hmhk5 hd.1
    have hx2 := mem_len hmhk5 hd.2.1
    have hx3 := law_paths_len hx1 hx2
    have hx4 := len_sz hd.2.1
    have hx5 := hlthk5
    refine sg_last ?_
    refine sg_set (d := ((eL yPath) ((s2 ++ ([[x4.lab]] : (List YPath))) ++ ((T__law_paths d x4.kids).map (fun (path7 : YPath) => ([x4.lab] ++ path7)))))) (ev_addL (enc := yPath) (xs := (s2 ++ ([[x4.lab]] : (List YPath)))) (ys := ((T__law_paths d x4.kids).map (fun (path7 : YPath) => ([x4.lab] ++ path7)))) (ev_addL (enc := yPath) (xs := s2) (ys := ([[x4.lab]] : (List YPath))) (ev_ow (i := 1) rfl) (ev_lst (ea_cons (da := (yPath [x4.lab])) (ev_tup (ea_cons (da := (eS x4.lab)) (ev_fz (i := 2) rfl) ea_nil)) ea_nil)) (by first | exact scQ | (have := law_paths_lv hx1 (by assumption); simp only [List.length_cons, List.length_nil]; omega) | exact ⟨hx1, hx2, by omega⟩ | (simp only [List.length_append, List.length_map, List.length_cons, List.length_nil]; omega) | exact scT /-1-/)) (ev_lcY (enc := yPath) (encB := yPath) (xs := (T__law_paths d x4.kids)) (fe := (fun (path7 : YPath) => ([x4.lab] ++ path7))) (ew_new (d := ((eL yPath) (T__law_paths d x4.kids))) (ev_call (ih_self x4.kids (by first | exact scQ | (have := law_paths_lv hx1 (by assumption); simp only [List.length_cons, List.length_nil]; omega) | exact ⟨hx1, hx2, by omega⟩ | (simp only [List.length_append, List.length_map, List.length_cons, List.length_nil]; omega) | exact scT /-2-/)) (ea_cons (da := (yBody x4.kids)) (ev_fz (i := 4) rfl) ea_nil) rdT) rfl) (by first | exact scQ | (have := law_paths_lv hx1 (by assumption); simp only [List.length_cons, List.length_nil]; omega) | exact ⟨hx1, hx2, by omega⟩ | (simp only [List.length_append, List.length_map, List.length_cons, List.length_nil]; omega) | exact scT /-4-/) (fun path7 hx8 => ⟨_, tg_n, _, _, (ev_addT (enc := eS) (xs := [x4.lab]) (ys := path7) (ev_tup (ea_cons (da := (eS x4.lab)) (ev_fz (i := 2) rfl) ea_nil)) (ev_fz (i := 5) rfl) (by first | exact scQ | (have := law_paths_lv hx1 (by assumption); simp only [List.length_cons, List.length_nil]; omega) | exact ⟨hx1, hx2, by omega⟩ | (simp only [List.length_append, List.length_map, List.length_cons, List.length_nil]; omega) | exact scT /-3-/)), leT⟩)) (by first | exact scQ | (have := law_paths_lv hx1 (by assumption); simp only [List.length_cons, List.length_nil]; omega) | exact ⟨hx1, hx2, by omega⟩ | (simp only [List.length_append, List.length_map, List.length_cons, List.length_nil]; omega) | exact scT /-5-/)) ?_
    refine sg_gen (fun found10 : (List YPath) => [.fz (yBody body), .ow ((eL yPath) found10), .fz (eS x4.lab), .fz ((eT eS) x4.words), .fz (yBody x4.kids), .any]) (x := ((s2 ++ ([[x4.lab]] : (List YPath))) ++ ((T__law_paths d x4.kids).map (fun (path7 : YPath) => ([x4.lab] ++ path7))))) fun found10 hfound10 => ?_
    exact sg_passN leT
  show Sg [.fz (yBody body), .ow ((eL yPath) s2), .any, .any, .any, .any] _ _ _
  refine sg_last ?_
  exact sg_ret (v := s2) (ev_ow (i := 1) rfl) leT roT
def T__law_goal_of (word : OkS) : (Option YPath) :=
  if ((!decide ((sAt word 0) = (okS "@"))) || (decide ((slen word) < 2))) = true then none else Let ((sSplit (sDrop word 1) (okS ".")) : (List OkS)) fun path3 => seqO (foldO (fun (s4 : (Unit)) (label6 : OkS) => (if ((decide (label6 = (okS ""))) || ((!((leG eS (okS "1") (sAt label6 0)) && (leG eS (sAt label6 0) (okS "9")))) || (!decide (((sChars (sDrop label6 1)).filter (fun (sign11 : OkS) => (!((leG eS (okS "a") sign11) && (leG eS sign11 (okS "z")))))) = ([] : (List OkS)))))) = true then (.rt none) else (.nx ()) : Ou (Option YPath) (Unit))) path3 ()) id fun (s4 : (Unit)) => (some path3)
theorem tv__law_goal_of (word : OkS) (hw : word ∈ WDS) : Ev [.fz (eS word)] f__law_goal_of .val ((eO yPath) (T__law_goal_of word)) [.fz (eS word)] := by
  have hz_ := wdsT word hw
  have hz1_ := hz_.1
  unfold f__law_goal_of
  refine ev_run (n := 1) (enc := (eO yPath)) (outs := (fun p_ : (Option YPath) => [.fz (eS word), .any, .any, .any])) (v := T__law_goal_of word) ?_
  unfold b__law_goal_of T__law_goal_of
  show Sg [.fz (eS word), .any, .any, .any] _ _ _
  refine sg_if (tj_or (p := (!decide ((sAt word 0) = (okS "@")))) (q := (decide ((slen word) < 2))) (tj_cmp (p := (!decide ((sAt word 0) = (okS "@")))) (da := (eS (sAt word 0))) (db := (eS (okS "@"))) (ev_ixSN (s := word) (p := 0) (ev_fz (i := 0) rfl) ev_C (by first | exact scQ | exact hz1_ | exact Nat.le_trans (slen_dropN word 1) (by omega) | exact slen_pos (of_decide_eq_false (by assumption)) | (rw [sChars_len]; have h_ := slen_dropN label6 1; omega) | omega | exact scT /-1-/) (by first | exact scQ | exact hz1_ | exact Nat.le_trans (slen_dropN word 1) (by omega) | exact slen_pos (of_decide_eq_false (by assumption)) | (rw [sChars_len]; have h_ := slen_dropN label6 1; omega) | omega | exact scT /-2-/)) ev_C (gNe_g (gd_str (n := 0)))) (fun hb1 => (tj_cmp (p := (decide ((slen word) < 2))) (da := (eN (slen word))) (db := (eN 2)) (ev_lenS (s := word) (ev_fz (i := 0) rfl) (by first | exact scQ | exact hz1_ | exact Nat.le_trans (slen_dropN word 1) (by omega) | exact slen_pos (of_decide_eq_false (by assumption)) | (rw [sChars_len]; have h_ := slen_dropN label6 1; omega) | omega | exact scT /-3-/)) ev_C gLt_nn))) (fun hc2 => ?_) (fun hc2 => ?_)
  · show Sg [.fz (eS word), .any, .any, .any] _ _ _
    exact sg_ret (v := none) ev_C leT roT
  · show Sg [.fz (eS word), .any, .any, .any] _ _ _
    refine sg_skip ?_
    refine sg_set (d := ((eT eS) (sSplit (sDrop word 1) (okS ".")))) (ev_tupL (enc := eS) (xs := (sSplit (sDrop word 1) (okS "."))) (ev_split (s := (sDrop word 1)) (t := (okS ".")) (ev_slSd (s := word) (p := 1) (ev_fz (i := 0) rfl) (ep_part ev_C) (by first | exact scQ | exact hz1_ | exact Nat.le_trans (slen_dropN word 1) (by omega) | exact slen_pos (of_decide_eq_false (by assumption)) | (rw [sChars_len]; have h_ := slen_dropN label6 1; omega) | omega | exact scT /-4-/)) ev_C (by first | exact scQ | exact hz1_ | exact Nat.le_trans (slen_dropN word 1) (by omega) | exact slen_pos (of_decide_eq_false (by assumption)) | (rw [sChars_len]; have h_ := slen_dropN label6 1; omega) | omega | exact scT /-5-/) (by decide +kernel))) ?_
    refine sg_gen (fun path3 : (List OkS) => [.fz (eS word), .fz ((eT eS) path3), .any, .any]) (x := (sSplit (sDrop word 1) (okS "."))) fun path3 hpath3 => ?_
    have hpm_ : ∀ l ∈ path3, slen l ≤ 10 := fun l hl => by rw [hpath3] at hl; exact Nat.le_trans (sSplit_mem hl).1 (Nat.le_trans (slen_dropN word 1) hz_.2)
    refine sg_forO (step := (fun (s4 : (Unit)) (label6 : OkS) => (if ((decide (label6 = (okS ""))) || ((!((leG eS (okS "1") (sAt label6 0)) && (leG eS (sAt label6 0) (okS "9")))) || (!decide (((sChars (sDrop label6 1)).filter (fun (sign11 : OkS) => (!((leG eS (okS "a") sign11) && (leG eS sign11 (okS "z")))))) = ([] : (List OkS)))))) = true then (.rt none) else (.nx ()) : Ou (Option YPath) (Unit)))) (inj := id) (hP := pr_out) (enc := eS) (xs := path3) (s0 := ()) (fun (s4 : (Unit)) => [.fz (eS word), .fz ((eT eS) path3), .any, .any]) (fun (k : Nat) (s4 : (Unit)) => True)  (ew_val (d := ((eT eS) path3)) (ev_fz (i := 1) rfl) rfl) leT (by trivial) (fun k5 label6 s4 hk7 hI8 => ⟨_, tg_n, ?_⟩) (by intro k5 label6 s4 s_ hk7 hI8 hs_; trivial) (fun s4 hI8 => ?_)
    · show Sg [.fz (eS word), .fz ((eT eS) path3), .fz (eS label6), .any] _ _ _
      have hlthk7 := lt_of_get hk7
      have hmhk7 := List.mem_of_getElem? hk7
      have hll_ := hpm_ _ hmhk7
      refine sg_last ?_
      refine sg_if (tj_or (p := (decide (label6 = (okS "")))) (q := ((!((leG eS (okS "1") (sAt label6 0)) && (leG eS (sAt label6 0) (okS "9")))) || (!decide (((sChars (sDrop label6 1)).filter (fun (sign11 : OkS) => (!((leG eS (okS "a") sign11) && (leG eS sign11 (okS "z")))))) = ([] : (List OkS)))))) (tj_cmp (p := (decide (label6 = (okS "")))) (da := (eS label6)) (db := (eS (okS ""))) (ev_fz (i := 2) rfl) ev_C (gEq_g (gd_str (n := 0)))) (fun hb9 => (tj_or (p := (!((leG eS (okS "1") (sAt label6 0)) && (leG eS (sAt label6 0) (okS "9"))))) (q := (!decide (((sChars (sDrop label6 1)).filter (fun (sign11 : OkS) => (!((leG eS (okS "a") sign11) && (leG eS sign11 (okS "z")))))) = ([] : (List OkS))))) (tj_not (p := ((leG eS (okS "1") (sAt label6 0)) && (leG eS (sAt label6 0) (okS "9")))) (tj_chain (p := (leG eS (okS "1") (sAt label6 0))) (q := (leG eS (sAt label6 0) (okS "9"))) (da := (eS (okS "1"))) (db := (eS (sAt label6 0))) (dc := (eS (okS "9"))) ev_C (ev_ixSN (s := label6) (p := 0) (ev_fz (i := 2) rfl) ev_C (by first | exact scQ | exact hz1_ | exact Nat.le_trans (slen_dropN word 1) (by omega) | exact slen_pos (of_decide_eq_false (by assumption)) | (rw [sChars_len]; have h_ := slen_dropN label6 1; omega) | omega | exact scT /-6-/) (by first | exact scQ | exact hz1_ | exact Nat.le_trans (slen_dropN word 1) (by omega) | exact slen_pos (of_decide_eq_false (by assumption)) | (rw [sChars_len]; have h_ := slen_dropN label6 1; omega) | omega | exact scT /-7-/)) (gLe_G (enc := eS) (so_str (n := 0)) (fun _ _ h => nomatch h)) (fun _ => ev_C) (fun _ => (gLe_G (enc := eS) (so_str (n := 0)) (fun _ _ h => nomatch h))))) (fun hb10 => (tj_cmp (p := (!decide (((sChars (sDrop label6 1)).filter (fun (sign11 : OkS) => (!((leG eS (okS "a") sign11) && (leG eS sign11 (okS "z")))))) = ([] : (List OkS))))) (da := ((eL eS) ((sChars (sDrop label6 1)).filter (fun (sign11 : OkS) => (!((leG eS (okS "a") sign11) && (leG eS sign11 (okS "z")))))))) (db := ((eL eS) ([] : (List OkS)))) (Ev.eq (ev_lc (enc := eS) (encB := eS) (xs := (sChars (sDrop label6 1))) (p := (fun (sign11 : OkS) => (!((leG eS (okS "a") sign11) && (leG eS sign11 (okS "z")))))) (fe := (fun (sign11 : OkS) => sign11)) (ew_val (d := (eS (sDrop label6 1))) (ev_slSd (s := label6) (p := 1) (ev_fz (i := 2) rfl) (ep_part ev_C) (by first | exact scQ | exact hz1_ | exact Nat.le_trans (slen_dropN word 1) (by omega) | exact slen_pos (of_decide_eq_false (by assumption)) | (rw [sChars_len]; have h_ := slen_dropN label6 1; omega) | omega | exact scT /-8-/)) sq_txt) (by first | exact scQ | exact hz1_ | exact Nat.le_trans (slen_dropN word 1) (by omega) | exact slen_pos (of_decide_eq_false (by assumption)) | (rw [sChars_len]; have h_ := slen_dropN label6 1; omega) | omega | exact scT /-9-/) (fun sign11 hx12 => ⟨_, tg_n, (tj_not (p := ((leG eS (okS "a") sign11) && (leG eS sign11 (okS "z")))) (tj_chain (p := (leG eS (okS "a") sign11)) (q := (leG eS sign11 (okS "z"))) (da := (eS (okS "a"))) (db := (eS sign11)) (dc := (eS (okS "z"))) ev_C (ev_fz (i := 3) rfl) (gLe_G (enc := eS) (so_str (n := 0)) (fun _ _ h => nomatch h)) (fun _ => ev_C) (fun _ => (gLe_G (enc := eS) (so_str (n := 0)) (fun _ _ h => nomatch h))))), (fun _ => leT), fun hp13 => ⟨_, _, (ev_fz (i := 3) rfl), leT⟩⟩)) (map_id_e _ _)) (ev_lst ea_nil) (gNe_g (gd_list (gd_str (n := 0))))))))) (fun hc14 => ?_) (fun hc14 => ?_)
      · show Sg [.fz (eS word), .fz ((eT eS) path3), .fz (eS label6), .any] _ _ _
        exact sg_retO (v := none) ev_C leT roT
      · show Sg [.fz (eS word), .fz ((eT eS) path3), .fz (eS label6), .any] _ _ _
        refine sg_skip ?_
        exact sg_passO leT
    show Sg [.fz (eS word), .fz ((eT eS) path3), .any, .any] _ _ _
    refine sg_last ?_
    exact sg_ret (v := (some path3)) (ev_fz (i := 1) rfl) leT roT
def T__law_refs (body : YBody) : (List YRef) :=
  Let (([] : (List YRef)) : (List YRef)) fun found1 => Let (List.foldl (fun (s2 : ((List YRef))) (path4 : YPath) => Let (((T__law_node body path4).getD nd0).words : (List OkS)) fun words7 => Let (List.foldl (fun (s8 : ((List YRef))) (place10 : Nat) => if (!(T__law_goal_of (words7.getD place10 dS0)).isNone) = true then Let ((s8 ++ [(path4, place10, ((T__law_goal_of (words7.getD place10 dS0)).getD []))]) : (List YRef)) fun found14 => found14 else s8) s2 (List.range words7.length)) fun (s8 : ((List YRef))) => s8) found1 (T__law_paths 5 body)) fun (s2 : ((List YRef))) => s2
theorem tv__law_refs (body : YBody) (hW : WfB PL LV body) (hs : szB body ≤ 100) : Ev [.fz (yBody body)] f__law_refs .new ((eL yRef) (T__law_refs body)) [.fz (yBody body)] := by
  have hd_ : lvB body < 5 := Nat.lt_of_le_of_lt (wfB_lv hW) (by decide)
  have hs1_ : szB body ≤ 1000 := by omega
  unfold f__law_refs
  refine ev_run (n := 1) (enc := (eL yRef)) (outs := (fun p_ : (List YRef) => [.fz (yBody body), .any, .any, .any, .any])) (v := T__law_refs body) ?_
  unfold b__law_refs T__law_refs
  show Sg [.fz (yBody body), .any, .any, .any, .any] _ _ _
  refine sg_set (d := ((eL yRef) ([] : (List YRef)))) (ev_lst ea_nil) ?_
  refine sg_gen (fun found1 : (List YRef) => [.fz (yBody body), .ow ((eL yRef) found1), .any, .any, .any]) (x := ([] : (List YRef))) fun found1 hfound1 => ?_
  refine sg_for (step := (fun (s2 : ((List YRef))) (path4 : YPath) => Let (((T__law_node body path4).getD nd0).words : (List OkS)) fun words7 => Let (List.foldl (fun (s8 : ((List YRef))) (place10 : Nat) => if (!(T__law_goal_of (words7.getD place10 dS0)).isNone) = true then Let ((s8 ++ [(path4, place10, ((T__law_goal_of (words7.getD place10 dS0)).getD []))]) : (List YRef)) fun found14 => found14 else s8) s2 (List.range words7.length)) fun (s8 : ((List YRef))) => s8)) (enc := yPath) (xs := (T__law_paths 5 body)) (s0 := found1) (fun (s2 : ((List YRef))) => [.fz (yBody body), .ow ((eL yRef) s2), .any, .any, .any]) (fun (k : Nat) (s2 : ((List YRef))) => s2.length ≤ 3 * k) (ew_new (d := ((eL yPath) (T__law_paths 5 body))) (ev_call (tv__law_paths 5 body (by first | exact scQ | exact ⟨hd_, hs1_, by decide⟩ | exact hn1_ | exact hwm_ _ (getD_mem' _ (List.mem_range.mp (by assumption))) | omega | exact scT /-1-/)) (ea_cons (da := (yBody body)) (ev_fz (i := 0) rfl) ea_nil) rdT) rfl) leT (by rw [hfound1]; exact Nat.zero_le _) (fun k3 path4 s2 hk5 hI6 => ⟨_, tg_n, ?_⟩) (by intro k3 path4 s2 hk5 hI6; (have hpb_ : path4 ∈ prB body := (by rw [← law_paths_eq 5 body hd_]; exact List.mem_of_getElem? hk5); have hn_ := (node_P hW hpb_).2.1; rw [← law_node_eq] at hn_; unfold Let; dsimp only; refine Nat.le_trans (fold_bd (fun s x => ?_) _ _) ?_; (split; (rw [List.length_append]; exact Nat.le_refl _); exact Nat.le_succ _); (have h_ := hI6; rw [List.length_range]; omega))) (fun s2 hs2 hI6 => ?_)
  · show Sg [.fz (yBody body), .ow ((eL yRef) s2), .fz (yPath path4), .any, .any] _ _ _
    have hlthk5 := lt_of_get hk5
    have hmhk5 := List.mem_of_getElem? hk5
    have hlk_ := hlthk5
    have hpb_ : path4 ∈ prB body := by rw [← law_paths_eq 5 body hd_]; exact hmhk5
    have hn_ := node_P hW hpb_
    rw [← law_node_eq] at hn_
    have hn1_ := hn_.1
    have hI1_ := hI6
    have hpl_ : (T__law_paths 5 body).length ≤ 100 := by rw [law_paths_eq 5 body hd_, prB_len]; exact hs
    refine sg_set (d := ((eT eS) (((T__law_node body path4).getD nd0).words))) (ev_ixC (d := (eNd ((T__law_node body path4).getD nd0))) (d' := ((eT eS) (((T__law_node body path4).getD nd0).words))) (Ev.eq (ev_call (tv__law_node body path4 (by first | exact scQ | exact ⟨hd_, hs1_, by decide⟩ | exact hn1_ | exact hwm_ _ (getD_mem' _ (List.mem_range.mp (by assumption))) | omega | exact scT /-2-/)) (ea_cons (da := (yBody body)) (ev_fz (i := 0) rfl) (ea_cons (da := (yPath path4)) (ev_fz (i := 2) rfl) ea_nil)) rdT) (eO_get nd0 (by first | exact scQ | exact ⟨hd_, hs1_, by decide⟩ | exact hn1_ | exact hwm_ _ (getD_mem' _ (List.mem_range.mp (by assumption))) | omega | exact scT /-3-/))) gIx_nd1) ?_
    refine sg_gen (fun words7 : (List OkS) => [.fz (yBody body), .ow ((eL yRef) s2), .fz (yPath path4), .fz ((eT eS) words7), .any]) (x := ((T__law_node body path4).getD nd0).words) fun words7 hwords7 => ?_
    have hwl_ : words7.length ≤ 3 := by rw [hwords7]; exact hn_.2.1
    have hwm_ : ∀ x ∈ words7, x ∈ WDS := by rw [hwords7]; exact hn_.2.2
    refine sg_last ?_
    refine sg_for (step := (fun (s8 : ((List YRef))) (place10 : Nat) => if (!(T__law_goal_of (words7.getD place10 dS0)).isNone) = true then Let ((s8 ++ [(path4, place10, ((T__law_goal_of (words7.getD place10 dS0)).getD []))]) : (List YRef)) fun found14 => found14 else s8)) (enc := eN) (xs := (List.range words7.length)) (s0 := s2) (fun (s8 : ((List YRef))) => [.fz (yBody body), .ow ((eL yRef) s8), .fz (yPath path4), .fz ((eT eS) words7), .any]) (fun (k : Nat) (s8 : ((List YRef))) => s8.length ≤ 3 * k3 + k) (ew_rgN (n := words7.length) (ev_lenT (enc := eS) (xs := words7) (ev_fz (i := 3) rfl)) (by first | exact scQ | exact ⟨hd_, hs1_, by decide⟩ | exact hn1_ | exact hwm_ _ (getD_mem' _ (List.mem_range.mp (by assumption))) | omega | exact scT /-4-/)) leT (by exact hI1_) (fun k9 place10 s8 hk11 hI12 => ⟨_, tg_n, ?_⟩) (by intro k9 place10 s8 hk11 hI12; (unfold Let; dsimp only; have h_ := hI12; split; (rw [List.length_append]; simp only [List.length_cons, List.length_nil]; omega); omega)) (fun s8 hs8 hI12 => ?_)
    · show Sg [.fz (yBody body), .ow ((eL yRef) s8), .fz (yPath path4), .fz ((eT eS) words7), .fz (eN place10)] _ _ _
      have hlthk11 := lt_of_get hk11
      have hmhk11 := List.mem_of_getElem? hk11
      have hl2_ := hlthk11
      rw [List.length_range] at hl2_
      have hI2_ := hI12
      refine sg_last ?_
      refine sg_if (tj_cmp (p := (!(T__law_goal_of (words7.getD place10 dS0)).isNone)) (da := ((eO yPath) (T__law_goal_of (words7.getD place10 dS0)))) (db := PyData.none) (ev_call (tv__law_goal_of (words7.getD place10 dS0) (by first | exact scQ | exact ⟨hd_, hs1_, by decide⟩ | exact hn1_ | exact hwm_ _ (getD_mem' _ (List.mem_range.mp (by assumption))) | omega | exact scT /-6-/)) (ea_cons (da := (eS (words7.getD place10 dS0))) (ev_ixTN dS0 (enc := eS) (xs := words7) (p := place10) (ev_fz (i := 3) rfl) (ev_fz (i := 4) rfl) (by first | exact scQ | exact ⟨hd_, hs1_, by decide⟩ | exact hn1_ | exact hwm_ _ (getD_mem' _ (List.mem_range.mp (by assumption))) | omega | exact scT /-5-/)) ea_nil) rdT) ev_C (gIsNot_O (fun _ => rfl))) (fun hc13 => ?_) (fun hc13 => ?_)
      · show Sg [.fz (yBody body), .ow ((eL yRef) s8), .fz (yPath path4), .fz ((eT eS) words7), .fz (eN place10)] _ _ _
        refine sg_drop (ev_app (enc := yRef) (xs := s8) (x := (path4, place10, ((T__law_goal_of (words7.getD place10 dS0)).getD []))) rfl (ev_tup (ea_cons (da := (yPath path4)) (ev_fz (i := 2) rfl) (ea_cons (da := (eN place10)) (ev_fz (i := 4) rfl) (ea_cons (da := (yPath ((T__law_goal_of (words7.getD place10 dS0)).getD []))) (Ev.eq (ev_call (tv__law_goal_of (words7.getD place10 dS0) (by first | exact scQ | exact ⟨hd_, hs1_, by decide⟩ | exact hn1_ | exact hwm_ _ (getD_mem' _ (List.mem_range.mp (by assumption))) | omega | exact scT /-8-/)) (ea_cons (da := (eS (words7.getD place10 dS0))) (ev_ixTN dS0 (enc := eS) (xs := words7) (p := place10) (ev_fz (i := 3) rfl) (ev_fz (i := 4) rfl) (by first | exact scQ | exact ⟨hd_, hs1_, by decide⟩ | exact hn1_ | exact hwm_ _ (getD_mem' _ (List.mem_range.mp (by assumption))) | omega | exact scT /-7-/)) ea_nil) rdT) (eO_get [] (by first | exact scQ | exact ⟨hd_, hs1_, by decide⟩ | exact hn1_ | exact hwm_ _ (getD_mem' _ (List.mem_range.mp (by assumption))) | omega | exact scT /-9-/))) ea_nil)))) rfl (by first | exact scQ | exact ⟨hd_, hs1_, by decide⟩ | exact hn1_ | exact hwm_ _ (getD_mem' _ (List.mem_range.mp (by assumption))) | omega | exact scT /-10-/)) ?_
        refine sg_gen (fun found14 : (List YRef) => [.fz (yBody body), .ow ((eL yRef) found14), .fz (yPath path4), .fz ((eT eS) words7), .fz (eN place10)]) (x := (s8 ++ [(path4, place10, ((T__law_goal_of (words7.getD place10 dS0)).getD []))])) fun found14 hfound14 => ?_
        exact sg_passN leT
      · show Sg [.fz (yBody body), .ow ((eL yRef) s8), .fz (yPath path4), .fz ((eT eS) words7), .fz (eN place10)] _ _ _
        refine sg_skip ?_
        exact sg_passN leT
    show Sg [.fz (yBody body), .ow ((eL yRef) s8), .fz (yPath path4), .fz ((eT eS) words7), .any] _ _ _
    exact sg_passN leT
  show Sg [.fz (yBody body), .ow ((eL yRef) s2), .any, .any, .any] _ _ _
  refine sg_last ?_
  exact sg_ret (v := s2) (ev_ow (i := 1) rfl) leT roT
def T__law_words  : (List OkS) :=
  ([(okS "the"), (okS "@1"), (okS "@2"), (okS "@2a"), (okS "@1.2"), (okS "@2.1"), (okS "@3"), (okS "@1.1"), (okS "@2a.1"), (okS "@9"), (okS "@2.2a.1"), (okS "@x"), (okS "@"), (okS "@1."), (okS "of"), (okS "@3.2")] : (List OkS))
theorem tv__law_words   : Ev [] f__law_words .new ((eL eS) (T__law_words )) [] := by
  unfold f__law_words
  refine ev_run (n := 0) (enc := (eL eS)) (outs := (fun p_ : (List OkS) => [])) (v := T__law_words ) ?_
  unfold b__law_words T__law_words
  show Sg [] _ _ _
  refine sg_last ?_
  exact sg_ret (v := ([(okS "the"), (okS "@1"), (okS "@2"), (okS "@2a"), (okS "@1.2"), (okS "@2.1"), (okS "@3"), (okS "@1.1"), (okS "@2a.1"), (okS "@9"), (okS "@2.2a.1"), (okS "@x"), (okS "@"), (okS "@1."), (okS "of"), (okS "@3.2")] : (List OkS))) (ev_lst (ea_cons (da := (eS (okS "the"))) ev_C (ea_cons (da := (eS (okS "@1"))) ev_C (ea_cons (da := (eS (okS "@2"))) ev_C (ea_cons (da := (eS (okS "@2a"))) ev_C (ea_cons (da := (eS (okS "@1.2"))) ev_C (ea_cons (da := (eS (okS "@2.1"))) ev_C (ea_cons (da := (eS (okS "@3"))) ev_C (ea_cons (da := (eS (okS "@1.1"))) ev_C (ea_cons (da := (eS (okS "@2a.1"))) ev_C (ea_cons (da := (eS (okS "@9"))) ev_C (ea_cons (da := (eS (okS "@2.2a.1"))) ev_C (ea_cons (da := (eS (okS "@x"))) ev_C (ea_cons (da := (eS (okS "@"))) ev_C (ea_cons (da := (eS (okS "@1."))) ev_C (ea_cons (da := (eS (okS "of"))) ev_C (ea_cons (da := (eS (okS "@3.2"))) ev_C ea_nil))))))))))))))))) leT roT
def T__law_far (refs : (List YRef)) (path : YPath) : (Option Nat) :=
  Let (([path] : (List YPath)) : (List YPath)) fun layer1 => Let (([] : (List YPath)) : (List YPath)) fun met2 => seqO (foldO (fun (s3 : ((List YPath) × (List YPath))) (turn5 : Nat) => (Let (([] : (List YPath)) : (List YPath)) fun later8 => Let (List.foldl (fun (s9 : ((List YPath))) (one11 : YPath) => Let ((s9 ++ ((refs.filter (fun (own14 : YRef) => ((decide (own14.1 = one11)) && (!decide (own14.2.2 ∈ s9))))).map (fun (own14 : YRef) => own14.2.2))) : (List YPath)) fun later18 => later18) later8 s3.1) fun (s9 : ((List YPath))) => if (decide (path ∈ s9)) = true then (.rt (some turn5)) else Let ((s9.filter (fun (goal20 : YPath) => (!decide (goal20 ∈ s3.2)))) : (List YPath)) fun layer23 => Let ((s3.2 ++ layer23) : (List YPath)) fun met24 => (.nx (layer23, met24)) : Ou (Option Nat) ((List YPath) × (List YPath)))) (List.range' 1 (60 - 1)) (layer1, met2)) id fun (s3 : ((List YPath) × (List YPath))) => none
theorem tv__law_far (refs : (List YRef)) (path : YPath) (hr : refs.length ≤ 300) : Ev [.rd ((eL yRef) refs), .fz (yPath path)] f__law_far .val ((eO eN) (T__law_far refs path)) [.rd ((eL yRef) refs), .fz (yPath path)] := by
  unfold f__law_far
  refine ev_run (n := 2) (enc := (eO eN)) (outs := (fun p_ : (Option Nat) => [.rd ((eL yRef) refs), .fz (yPath path), .any, .any, .any, .any, .any, .any, .any, .any])) (v := T__law_far refs path) ?_
  unfold b__law_far T__law_far
  show Sg [.rd ((eL yRef) refs), .fz (yPath path), .any, .any, .any, .any, .any, .any, .any, .any] _ _ _
  refine sg_par (ea_cons (da := ((eL yPath) ([path] : (List YPath)))) (ev_lst (ea_cons (da := (yPath path)) (ev_fz (i := 1) rfl) ea_nil)) (ea_cons (da := ((eL yPath) ([] : (List YPath)))) (ev_lst ea_nil) ea_nil)) rdT ?_
  refine sg_gen (fun layer1 : (List YPath) => [.rd ((eL yRef) refs), .fz (yPath path), .ow ((eL yPath) layer1), .ow ((eL yPath) ([] : (List YPath))), .any, .any, .any, .any, .any, .any]) (x := ([path] : (List YPath))) fun layer1 hlayer1 => ?_
  refine sg_gen (fun met2 : (List YPath) => [.rd ((eL yRef) refs), .fz (yPath path), .ow ((eL yPath) layer1), .ow ((eL yPath) met2), .any, .any, .any, .any, .any, .any]) (x := ([] : (List YPath))) fun met2 hmet2 => ?_
  refine sg_forO (step := (fun (s3 : ((List YPath) × (List YPath))) (turn5 : Nat) => (Let (([] : (List YPath)) : (List YPath)) fun later8 => Let (List.foldl (fun (s9 : ((List YPath))) (one11 : YPath) => Let ((s9 ++ ((refs.filter (fun (own14 : YRef) => ((decide (own14.1 = one11)) && (!decide (own14.2.2 ∈ s9))))).map (fun (own14 : YRef) => own14.2.2))) : (List YPath)) fun later18 => later18) later8 s3.1) fun (s9 : ((List YPath))) => if (decide (path ∈ s9)) = true then (.rt (some turn5)) else Let ((s9.filter (fun (goal20 : YPath) => (!decide (goal20 ∈ s3.2)))) : (List YPath)) fun layer23 => Let ((s3.2 ++ layer23) : (List YPath)) fun met24 => (.nx (layer23, met24)) : Ou (Option Nat) ((List YPath) × (List YPath))))) (inj := id) (hP := pr_out) (enc := eN) (xs := (List.range' 1 (60 - 1))) (s0 := (layer1, met2)) (fun (s3 : ((List YPath) × (List YPath))) => [.rd ((eL yRef) refs), .fz (yPath path), .ow ((eL yPath) s3.1), .ow ((eL yPath) s3.2), .any, .any, .any, .any, .any, .any]) (fun (k : Nat) (s3 : ((List YPath) × (List YPath))) => s3.2.length ≤ 300 * k)  (ew_rgNN (n := 1) (m := 60) ev_C ev_C (by first | exact scQ | (rw [List.length_map]; refine Nat.le_trans (Nat.add_le_add_left (List.length_filter_le _ _) _) ?_; omega) | omega | exact scT /-1-/) (by first | exact scQ | (rw [List.length_map]; refine Nat.le_trans (Nat.add_le_add_left (List.length_filter_le _ _) _) ?_; omega) | omega | exact scT /-2-/)) leT (by rw [hmet2]; exact Nat.zero_le _) (fun k4 turn5 s3 hk6 hI7 => ⟨_, tg_n, ?_⟩) (by intro k4 turn5 s3 s_ hk6 hI7 hs_; (unfold Let at hs_; dsimp only at hs_; split at hs_ <;> rcases hs_ with z_ | z_ <;> first | (cases z_; done) | (cases z_; rw [List.length_append]; exact Nat.le_trans (Nat.add_le_add hI7 (Nat.le_trans (List.length_filter_le _ _) (Nat.le_trans (ltI_fold (refs := refs) s3.1).le hr))) (by omega)))) (fun s3 hI7 => ?_)
  · show Sg [.rd ((eL yRef) refs), .fz (yPath path), .ow ((eL yPath) s3.1), .ow ((eL yPath) s3.2), .fz (eN turn5), .any, .any, .any, .any, .any] _ _ _
    have hlthk6 := lt_of_get hk6
    have hmhk6 := List.mem_of_getElem? hk6
    have hlk_ := hlthk6
    rw [List.length_range'] at hlk_
    have hIm_ := hI7
    refine sg_set (d := ((eL yPath) ([] : (List YPath)))) (ev_lst ea_nil) ?_
    refine sg_gen (fun later8 : (List YPath) => [.rd ((eL yRef) refs), .fz (yPath path), .ow ((eL yPath) s3.1), .ow ((eL yPath) s3.2), .fz (eN turn5), .ow ((eL yPath) later8), .any, .any, .any, .any]) (x := ([] : (List YPath))) fun later8 hlater8 => ?_
    refine sg_for (step := (fun (s9 : ((List YPath))) (one11 : YPath) => Let ((s9 ++ ((refs.filter (fun (own14 : YRef) => ((decide (own14.1 = one11)) && (!decide (own14.2.2 ∈ s9))))).map (fun (own14 : YRef) => own14.2.2))) : (List YPath)) fun later18 => later18)) (enc := yPath) (xs := s3.1) (s0 := later8) (fun (s9 : ((List YPath))) => [.rd ((eL yRef) refs), .fz (yPath path), .lk ((eL yPath) s3.1), .ow ((eL yPath) s3.2), .fz (eN turn5), .ow ((eL yPath) s9), .any, .any, .any, .any]) (fun (k : Nat) (s9 : ((List YPath))) => LtI refs (s3.1.take k) s9) (ew_ow (d := ((eL yPath) s3.1)) (ev_ow (i := 2) rfl) rfl rfl) leT (by rw [hlater8, List.take_zero]; exact ltI_0) (fun k10 one11 s9 hk12 hI13 => ⟨_, tg_n, ?_⟩) (by intro k10 one11 s9 hk12 hI13; (unfold Let; dsimp only; exact ltI_at hI13 hk12)) (fun s9 hs9 hI13 => ?_)
    · show Sg [.rd ((eL yRef) refs), .fz (yPath path), .lk ((eL yPath) s3.1), .ow ((eL yPath) s3.2), .fz (eN turn5), .ow ((eL yPath) s9), .fz (yPath one11), .any, .any, .any] _ _ _
      have hlthk12 := lt_of_get hk12
      have hmhk12 := List.mem_of_getElem? hk12
      have hlt_ := hI13.le
      refine sg_last ?_
      refine sg_set (d := ((eL yPath) (s9 ++ ((refs.filter (fun (own14 : YRef) => ((decide (own14.1 = one11)) && (!decide (own14.2.2 ∈ s9))))).map (fun (own14 : YRef) => own14.2.2))))) (ev_addL (enc := yPath) (xs := s9) (ys := ((refs.filter (fun (own14 : YRef) => ((decide (own14.1 = one11)) && (!decide (own14.2.2 ∈ s9))))).map (fun (own14 : YRef) => own14.2.2))) (ev_ow (i := 5) rfl) (ev_lc (enc := yRef) (encB := yPath) (xs := refs) (p := (fun (own14 : YRef) => ((decide (own14.1 = one11)) && (!decide (own14.2.2 ∈ s9))))) (fe := (fun (own14 : YRef) => own14.2.2)) (ew_nam (d := ((eL yRef) refs)) (ev_rd (i := 0) rfl) rfl) (by first | exact scQ | (rw [List.length_map]; refine Nat.le_trans (Nat.add_le_add_left (List.length_filter_le _ _) _) ?_; omega) | omega | exact scT /-3-/) (fun own14 hx15 => ⟨_, (tg_t (tg_cons tg_n (tg_cons tg_n (tg_cons tg_n tg_nil)))), (tj_and (p := (decide (own14.1 = one11))) (q := (!decide (own14.2.2 ∈ s9))) (tj_cmp (p := (decide (own14.1 = one11))) (da := (yPath own14.1)) (db := (yPath one11)) (ev_fz (i := 7) rfl) (ev_fz (i := 6) rfl) (gEq_g (gd_tl (gd_str (n := 0))))) (fun hb17 => (tj_cmp (p := (!decide (own14.2.2 ∈ s9))) (da := (yPath own14.2.2)) (db := ((eL yPath) s9)) (ev_fz (i := 9) rfl) (ev_ow (i := 5) rfl) (gNotIn_gl (gd_tl (gd_str (n := 0))))))), (fun _ => leT), fun hp16 => ⟨_, _, (ev_fz (i := 9) rfl), leT⟩⟩)) (by first | exact scQ | (rw [List.length_map]; refine Nat.le_trans (Nat.add_le_add_left (List.length_filter_le _ _) _) ?_; omega) | omega | exact scT /-4-/)) ?_
      refine sg_gen (fun later18 : (List YPath) => [.rd ((eL yRef) refs), .fz (yPath path), .lk ((eL yPath) s3.1), .ow ((eL yPath) s3.2), .fz (eN turn5), .ow ((eL yPath) later18), .fz (yPath one11), .any, .any, .any]) (x := (s9 ++ ((refs.filter (fun (own14 : YRef) => ((decide (own14.1 = one11)) && (!decide (own14.2.2 ∈ s9))))).map (fun (own14 : YRef) => own14.2.2)))) fun later18 hlater18 => ?_
      exact sg_passN leT
    show Sg [.rd ((eL yRef) refs), .fz (yPath path), .ow ((eL yPath) s3.1), .ow ((eL yPath) s3.2), .fz (eN turn5), .ow ((eL yPath) s9), .any, .any, .any, .any] _ _ _
    have hle_ := hI13.le
    refine sg_if (tj_cmp (p := (decide (path ∈ s9))) (da := (yPath path)) (db := ((eL yPath) s9)) (ev_fz (i := 1) rfl) (ev_ow (i := 5) rfl) (gIn_gl (gd_tl (gd_str (n := 0))))) (fun hc19 => ?_) (fun hc19 => ?_)
    · show Sg [.rd ((eL yRef) refs), .fz (yPath path), .ow ((eL yPath) s3.1), .ow ((eL yPath) s3.2), .fz (eN turn5), .ow ((eL yPath) s9), .any, .any, .any, .any] _ _ _
      exact sg_retO (v := (some turn5)) (ev_fz (i := 4) rfl) leT roT
    · show Sg [.rd ((eL yRef) refs), .fz (yPath path), .ow ((eL yPath) s3.1), .ow ((eL yPath) s3.2), .fz (eN turn5), .ow ((eL yPath) s9), .any, .any, .any, .any] _ _ _
      refine sg_skip ?_
      refine sg_set (d := ((eL yPath) (s9.filter (fun (goal20 : YPath) => (!decide (goal20 ∈ s3.2)))))) (Ev.eq (ev_lc (enc := yPath) (encB := yPath) (xs := s9) (p := (fun (goal20 : YPath) => (!decide (goal20 ∈ s3.2)))) (fe := (fun (goal20 : YPath) => goal20)) (ew_ow (d := ((eL yPath) s9)) (ev_ow (i := 5) rfl) rfl rfl) (by first | exact scQ | (rw [List.length_map]; refine Nat.le_trans (Nat.add_le_add_left (List.length_filter_le _ _) _) ?_; omega) | omega | exact scT /-5-/) (fun goal20 hx21 => ⟨_, tg_n, (tj_cmp (p := (!decide (goal20 ∈ s3.2))) (da := (yPath goal20)) (db := ((eL yPath) s3.2)) (ev_fz (i := 9) rfl) (ev_ow (i := 3) rfl) (gNotIn_gl (gd_tl (gd_str (n := 0))))), (fun _ => leT), fun hp22 => ⟨_, _, (ev_fz (i := 9) rfl), leT⟩⟩)) (map_id_e _ _)) ?_
      refine sg_gen (fun layer23 : (List YPath) => [.rd ((eL yRef) refs), .fz (yPath path), .ow ((eL yPath) layer23), .ow ((eL yPath) s3.2), .fz (eN turn5), .ow ((eL yPath) s9), .any, .any, .any, .any]) (x := (s9.filter (fun (goal20 : YPath) => (!decide (goal20 ∈ s3.2))))) fun layer23 hlayer23 => ?_
      have hly_ : layer23.length ≤ s9.length := by rw [hlayer23]; exact List.length_filter_le _ _
      refine sg_last ?_
      refine sg_set (d := ((eL yPath) (s3.2 ++ layer23))) (ev_addL (enc := yPath) (xs := s3.2) (ys := layer23) (ev_ow (i := 3) rfl) (ev_ow (i := 2) rfl) (by first | exact scQ | (rw [List.length_map]; refine Nat.le_trans (Nat.add_le_add_left (List.length_filter_le _ _) _) ?_; omega) | omega | exact scT /-6-/)) ?_
      refine sg_gen (fun met24 : (List YPath) => [.rd ((eL yRef) refs), .fz (yPath path), .ow ((eL yPath) layer23), .ow ((eL yPath) met24), .fz (eN turn5), .ow ((eL yPath) s9), .any, .any, .any, .any]) (x := (s3.2 ++ layer23)) fun met24 hmet24 => ?_
      exact sg_passO leT
  show Sg [.rd ((eL yRef) refs), .fz (yPath path), .ow ((eL yPath) s3.1), .ow ((eL yPath) s3.2), .any, .any, .any, .any, .any, .any] _ _ _
  refine sg_last ?_
  exact sg_ret (v := none) ev_C leT roT
theorem ref_eq : ∀ w ∈ WDS, T_ref_of w = T__law_goal_of w := by decide +kernel
def GOALS : List (List OkS) := WDS.filterMap T_ref_of
theorem goalsN : GOALS.length ≤ 16 := List.length_filterMap_le ..
theorem goals_ne : ∀ g ∈ GOALS, g ≠ [] := by decide +kernel
theorem goal_in {w : OkS} (hw : w ∈ WDS) {g : List OkS} (h : T_ref_of w = some g) : g ∈ GOALS := List.mem_filterMap.mpr ⟨w, hw, h⟩
theorem fold_cg {α β : Type} {f g : β → α → β} : ∀ (L : List α) (s : β), (∀ s, ∀ x ∈ L, f s x = g s x) → L.foldl f s = L.foldl g s
  | [], _, _ => rfl
  | x :: L, s, h => by
    rw [List.foldl_cons, List.foldl_cons, h s x (by simp)]
    exact fold_cg L _ fun s y hy => h s y (by simp [hy])
theorem lv5 {b : List Nd} (hW : WfB PL LV b) : lvB b < 5 := Nat.lt_of_le_of_lt (wfB_lv hW) (by decide)
theorem refs_eq {b : List Nd} (hW : WfB PL LV b) : T_refs_of b = T__law_refs b := by
  unfold T_refs_of T__law_refs Let
  dsimp only
  rw [all_paths_eq 5 b (lv5 hW), law_paths_eq 5 b (lv5 hW)]
  refine fold_cg _ _ fun s p hp => ?_
  have hn := node_P hW hp
  rw [node_at_eq, law_node_eq]
  refine fold_cg _ _ fun s k hk => ?_
  have hw := hn.2.2 _ (getD_mem' dS0 (List.mem_range.mp hk))
  rw [ref_eq _ hw]
theorem refs_G {b : List Nd} (hW : WfB PL LV b) : ∀ r ∈ T_refs_of b, r.2.2 ∈ GOALS := by
  unfold T_refs_of Let
  dsimp only
  rw [all_paths_eq 5 b (lv5 hW)]
  refine foldl_ind (P := fun (s : List YRef) => ∀ r ∈ s, r.2.2 ∈ GOALS) (fun r hr => by simp at hr) fun s p hp hs => ?_
  have hn := node_P hW hp
  rw [node_at_eq]
  refine foldl_ind (P := fun (s : List YRef) => ∀ r ∈ s, r.2.2 ∈ GOALS) hs fun s k hk hs => ?_
  have hw := hn.2.2 _ (getD_mem' dS0 (List.mem_range.mp hk))
  cases e : T_ref_of (((nodeP b p).getD nd0).words.getD k dS0) with
  | none => exact hs
  | some g =>
    intro r hr
    rcases List.mem_append.mp hr with z | z
    · exact hs r z
    · rw [List.mem_singleton.mp z]
      exact goal_in hw e
theorem dang_eq {b : List Nd} (hW : WfB PL LV b) : T_dangling b = (T__law_refs b).filter fun ref => !decide (ref.2.2 ∈ T__law_paths 5 b) := by
  unfold T_dangling
  rw [← refs_eq hW]
  refine List.filter_congr fun r hr => ?_
  have hg := goals_ne _ (refs_G hW r hr)
  have hW2 : WfB (PLk fun l => l ∈ LABS) LV b := wfB_imp (fun l w h => h.1) hW
  have hn := node_none' hW2 hg
  rw [node_at_eq, law_paths_eq 5 b (lv5 hW)]
  cases e : nodeP b r.2.2 with
  | none => rw [decide_eq_false (hn.mp e)]; rfl
  | some x => rw [decide_eq_true (nodeP_some hg e)]; rfl
theorem to_eq {b : List Nd} (hW : WfB PL LV b) (path : List OkS) : T_refs_to b path = (T__law_refs b).filter fun ref => decide (ref.2.2.take path.length = path) := by
  unfold T_refs_to
  rw [← refs_eq hW]
  rfl
/-! rings -/
theorem ring_eq {refs : List YRef} {first : List OkS} (hr : refs.length ≤ 300) : match T_ring_from refs first with
    | none => ∀ c, ¬ Ring (lnk refs) first [] c
    | some r => Shortest (lnk refs) first [] r := by
  have q := whO_ind (c := fun (s2 : RfW) => (decide (s2.2.2 < s2.2.1.length))) (f := rfOut refs first) (I := fun s => RfI refs first s.1 s.2.1 s.2.2) (R := fun v => ∃ r, v = some r ∧ Shortest (lnk refs) first [] r ∧ r.length ≤ refs.length + 1) (μ := fun s => 301 - s.2.2) (fun s h hc => by
    have hc := of_decide_eq_true hc
    have q := rf_out h hc
    cases e : rfOut refs first s with
    | rt v => rw [e] at q; exact q
    | bk s' => rw [e] at q; exact q
    | nx s' =>
      rw [e] at q
      refine ⟨q.1, ?_⟩
      have := h.2.le
      have := q.2
      show 301 - s'.2.2 < 301 - s.2.2
      omega) 1000 ([], [[first]], 0) rfI_0 (by show 301 - 0 < 1000; decide)
  show match (seqO (whO (fun (s2 : RfW) => (decide (s2.2.2 < s2.2.1.length))) (rfOut refs first) 1000 ([], [[first]], 0)) id fun s2 => none : Option (List (List OkS))) with
    | none => ∀ c, ¬ Ring (lnk refs) first [] c
    | some r => Shortest (lnk refs) first [] r
  cases e : whO (fun (s2 : RfW) => (decide (s2.2.2 < s2.2.1.length))) (rfOut refs first) 1000 ([], [[first]], 0) with
  | bk s => rw [e] at q; exact q.elim
  | rt v =>
    rw [e] at q
    obtain ⟨r, hv, h1, _⟩ := q
    subst hv
    exact h1
  | nx s =>
    rw [e] at q
    have h1 := q.1.1
    have h2 := of_decide_eq_false q.2
    have h3 : s.2.2 = s.2.1.length := by have := h1.le; omega
    rw [h3] at h1
    exact bf_none h1
def latr (refs : List YRef) (layer : List (List OkS)) : List (List OkS) := layer.foldl (fun s one => s ++ (refs.filter fun r => decide (r.1 = one) && !decide (r.2.2 ∈ s)).map fun r => r.2.2) []
def lfS (refs : List YRef) (path : List OkS) (s : List (List OkS) × List (List OkS)) (turn : Nat) : Ou (Option Nat) (List (List OkS) × List (List OkS)) := if decide (path ∈ latr refs s.1) = true then .rt (some turn) else .nx ((latr refs s.1).filter fun g => !decide (g ∈ s.2), s.2 ++ (latr refs s.1).filter fun g => !decide (g ∈ s.2))
theorem flt_1 {L M : List (List OkS)} : ∀ x ∈ L.filter (fun g => !decide (g ∈ M)), x ∈ L := fun x hx => (List.mem_filter.mp hx).1
theorem flt_2 {L M : List (List OkS)} : ∀ x ∈ M ++ L.filter (fun g => !decide (g ∈ M)), x ∈ M ∨ x ∈ L.filter (fun g => !decide (g ∈ M)) := fun x hx => List.mem_append.mp hx
theorem flt_3 {L M : List (List OkS)} : ∀ x ∈ L, x ∉ M → x ∈ L.filter (fun g => !decide (g ∈ M)) := fun x hx hn => List.mem_filter.mpr ⟨hx, by rw [decide_eq_false hn]; rfl⟩
theorem latr_i (refs : List YRef) (layer : List (List OkS)) : ∀ x, x ∈ latr refs layer ↔ ∃ y ∈ layer, (y, x) ∈ lnk refs := (ltI_fold layer).i
theorem far_ring {refs : List YRef} {path : List OkS} {c : List (List OkS)} (hc : Shortest (lnk refs) path [] c) : ∀ (n t : Nat) (s : List (List OkS) × List (List OkS)), LayI (lnk refs) path [] t s.1 s.2 → t < c.length → c.getD t [] ∈ s.1 → c.length ≤ t + n → foldO (lfS refs path) (List.range' (t + 1) n) s = .rt (some c.length)
  | 0, t, s, _, h1, _, h2 => by omega
  | n + 1, t, s, h, h1, hm, h2 => by
    rw [List.range'_succ]
    unfold foldO lfS
    by_cases hp : path ∈ latr refs s.1
    · rw [if_pos (decide_eq_true hp)]
      obtain ⟨r, hr, hl⟩ := lay_none h (latr_i refs s.1) hp
      have := hc.m r hr
      have : t + 1 = c.length := by omega
      rw [this]
    · rw [if_neg (by simpa using hp)]
      have h3 : t + 1 ≠ c.length := fun e => hp (lay_hit (met := s.2) (latr_i refs s.1) hc e hm)
      exact far_ring hc n (t + 1) _ (lay_step h (latr_i refs s.1) flt_1 flt_2) (by omega) (lay_ring h (latr_i refs s.1) flt_3 hc (by omega) hm) (by omega)
theorem far_no {refs : List YRef} {path : List OkS} (hn : ∀ c, ¬ Ring (lnk refs) path [] c) : ∀ (n t : Nat) (s : List (List OkS) × List (List OkS)), LayI (lnk refs) path [] t s.1 s.2 → ∃ s', foldO (lfS refs path) (List.range' (t + 1) n) s = .nx s'
  | 0, t, s, _ => ⟨s, rfl⟩
  | n + 1, t, s, h => by
    rw [List.range'_succ]
    unfold foldO lfS
    by_cases hp : path ∈ latr refs s.1
    · obtain ⟨r, hr, _⟩ := lay_none h (latr_i refs s.1) hp
      exact absurd hr (hn r)
    · rw [if_neg (by simpa using hp)]
      have q := lay_step h (latr_i refs s.1) (flt_1 (M := s.2)) flt_2
      exact far_no hn n (t + 1) (_, _) q
theorem far_eq {refs : List YRef} {path : List OkS} (hr : refs.length ≤ 300) (hG : ∀ r ∈ refs, r.2.2 ∈ GOALS) : T__law_far refs path = (T_ring_from refs path).map List.length := by
  have q := ring_eq (first := path) hr
  have e : T__law_far refs path = seqO (foldO (lfS refs path) (List.range' 1 (60 - 1)) ([path], [])) id fun _ => none := rfl
  rw [e]
  cases e2 : T_ring_from refs path with
  | none =>
    rw [e2] at q
    obtain ⟨s', h⟩ := far_no q (60 - 1) 0 ([path], []) lay_0
    rw [h]; rfl
  | some r =>
    rw [e2] at q
    have hl := short_len (G := GOALS) q fun e he => by
      obtain ⟨x, hx, z⟩ := List.mem_map.mp he
      rw [← z]; exact hG x hx
    have h0 := List.length_pos_iff.mpr q.g.f.ne
    have := goalsN
    rw [far_ring q (60 - 1) 0 ([path], []) lay_0 h0 (by rw [q.g.f.at0]; simp) (by omega)]
    rfl
theorem best_fold {α β : Type} {F : α → Option (List β)} : ∀ (L : List α) (s : Option (List β)), ((L.foldl (fun s p => if ((!(F p).isNone) && (s.isNone || (decide (((F p).getD []).length < (s.getD []).length)))) = true then F p else s) s = none ↔ s = none ∧ ∀ p ∈ L, F p = none) ∧
    ∀ r, L.foldl (fun s p => if ((!(F p).isNone) && (s.isNone || (decide (((F p).getD []).length < (s.getD []).length)))) = true then F p else s) s = some r → (s = some r ∨ ∃ p ∈ L, F p = some r) ∧ (∀ r', s = some r' → r.length ≤ r'.length) ∧ ∀ p ∈ L, ∀ r', F p = some r' → r.length ≤ r'.length)
  | [], s => ⟨⟨fun h => ⟨h, fun p hp => by simp at hp⟩, fun h => h.1⟩, fun r h => ⟨.inl h, fun r' h' => by rw [show s = some r from h] at h'; cases h'; exact Nat.le_refl _, fun p hp => by simp at hp⟩⟩
  | x :: L, s => by
    rw [List.foldl_cons]
    have ih := best_fold (F := F) L (if ((!(F x).isNone) && (s.isNone || (decide (((F x).getD []).length < (s.getD []).length)))) = true then F x else s)
    cases hx : F x with
    | none =>
      rw [hx] at ih
      have e : (if ((!(none : Option (List β)).isNone) && (s.isNone || (decide (((none : Option (List β)).getD []).length < (s.getD []).length)))) = true then none else s) = s := if_neg (by simp)
      rw [e] at ih ⊢
      refine ⟨ih.1.trans ⟨fun h => ⟨h.1, fun p hp => ?_⟩, fun h => ⟨h.1, fun p hp => h.2 p (by simp [hp])⟩⟩, fun r hr => ?_⟩
      · rcases List.mem_cons.mp hp with z | z
        · rw [z]; exact hx
        · exact h.2 p z
      · obtain ⟨a1, a2, a3⟩ := ih.2 r hr
        refine ⟨a1.imp_right fun ⟨p, hp, e⟩ => ⟨p, by simp [hp], e⟩, a2, fun p hp r' hr' => ?_⟩
        rcases List.mem_cons.mp hp with z | z
        · rw [z, hx] at hr'; cases hr'
        · exact a3 p z r' hr'
    | some rx =>
      rw [hx] at ih
      have ne : ∀ t : Option (List β), t = (if ((!(some rx : Option (List β)).isNone) && (s.isNone || (decide (((some rx : Option (List β)).getD []).length < (s.getD []).length)))) = true then some rx else s) → ∃ r0, t = some r0 ∧ (s = some r0 ∨ some rx = some r0) ∧ r0.length ≤ rx.length ∧ ∀ r', s = some r' → r0.length ≤ r'.length := fun t ht => by
        cases s with
        | none => exact ⟨rx, ht, .inr rfl, Nat.le_refl _, fun r' h => by cases h⟩
        | some r1 =>
          by_cases c : rx.length < r1.length
          · have : t = some rx := by rw [ht]; exact if_pos (by simp [c])
            exact ⟨rx, this, .inr rfl, Nat.le_refl _, fun r' h => by cases h; omega⟩
          · have : t = some r1 := by rw [ht]; exact if_neg (by simp [c])
            exact ⟨r1, this, .inl rfl, by omega, fun r' h => by cases h; exact Nat.le_refl _⟩
      obtain ⟨r0, e0, e1, e2, e3⟩ := ne _ rfl
      rw [e0] at ih ⊢
      refine ⟨⟨fun h => absurd (ih.1.mp h).1 (by simp), fun h => absurd (h.2 x (by simp)) (by rw [hx]; simp)⟩, fun r hr => ?_⟩
      obtain ⟨a1, a2, a3⟩ := ih.2 r hr
      have hle := a2 r0 rfl
      refine ⟨?_, fun r' h' => Nat.le_trans hle (e3 r' h'), fun p hp r' hr' => ?_⟩
      · rcases a1 with z | ⟨p, hp, e⟩
        · cases z
          rcases e1 with z | z
          · exact .inl z
          · exact .inr ⟨x, by simp, by rw [hx]; exact z⟩
        · exact .inr ⟨p, by simp [hp], e⟩
      · rcases List.mem_cons.mp hp with z | z
        · rw [z, hx] at hr'; cases hr'; exact Nat.le_trans hle e2
        · exact a3 p z r' hr'
theorem minN_spec {ns : List Nat} (h : ns ≠ []) : minN ns ∈ ns ∧ ∀ y ∈ ns, minN ns ≤ y := by
  have q := minL_spec (ns := ns.map fun k : Nat => (k : Int)) (by simpa using h)
  rw [minN_cast h] at q
  refine ⟨?_, fun y hy => ?_⟩
  · obtain ⟨k, hk, e⟩ := List.mem_map.mp q.1
    have : k = minN ns := by omega
    rw [← this]; exact hk
  · have := q.2 _ (List.mem_map.mpr ⟨y, hy, rfl⟩)
    omega
def farsOf (refs : List YRef) (paths : List (List OkS)) : List Nat := ((paths.map fun own => T__law_far refs own).filter fun far => !far.isNone).map fun far => far.getD 0
theorem ring_min {b : List Nd} (hW : WfB PL LV b) (hs : szB b ≤ 100) : (T_ref_ring b = none ↔ farsOf (T__law_refs b) (T__law_paths 5 b) = []) ∧ ∀ r, T_ref_ring b = some r → farsOf (T__law_refs b) (T__law_paths 5 b) ≠ [] ∧ r.length = minN (farsOf (T__law_refs b) (T__law_paths 5 b)) ∧ r.length ≤ 17 ∧ ∃ p, Ring (lnk (T__law_refs b)) p [] r := by
  have hr := refs_len (lv5 hW) hW hs
  have hG := refs_G hW
  have q := best_fold (F := T_ring_from (T_refs_of b)) (T_all_paths 5 b) none
  have e : T_ref_ring b = (T_all_paths 5 b).foldl (fun s p => if ((!(T_ring_from (T_refs_of b) p).isNone) && (s.isNone || (decide (((T_ring_from (T_refs_of b) p).getD []).length < (s.getD []).length)))) = true then T_ring_from (T_refs_of b) p else s) none := rfl
  rw [← e] at q
  have hp : T_all_paths 5 b = T__law_paths 5 b := by rw [all_paths_eq 5 b (lv5 hW), law_paths_eq 5 b (lv5 hW)]
  rw [hp] at q
  rw [← refs_eq hW]
  have mem : ∀ n, n ∈ farsOf (T_refs_of b) (T__law_paths 5 b) ↔ ∃ p ∈ T__law_paths 5 b, ∃ r, T_ring_from (T_refs_of b) p = some r ∧ n = r.length := fun n => by
    unfold farsOf
    constructor
    · intro h
      obtain ⟨f, hf, e⟩ := List.mem_map.mp h
      obtain ⟨h1, h2⟩ := List.mem_filter.mp hf
      obtain ⟨p, hp, e2⟩ := List.mem_map.mp h1
      rw [far_eq hr hG] at e2
      cases e3 : T_ring_from (T_refs_of b) p with
      | none => rw [e3] at e2; rw [← e2] at h2; cases h2
      | some r => rw [e3] at e2; exact ⟨p, hp, r, e3, by rw [← e, ← e2]; rfl⟩
    · rintro ⟨p, hp, r, e3, e4⟩
      refine List.mem_map.mpr ⟨some r.length, List.mem_filter.mpr ⟨List.mem_map.mpr ⟨p, hp, ?_⟩, rfl⟩, e4.symm⟩
      rw [far_eq hr hG, e3]; rfl
  refine ⟨⟨fun h => ?_, fun h => ?_⟩, fun r h => ?_⟩
  · refine List.eq_nil_iff_forall_not_mem.mpr fun n hn => ?_
    obtain ⟨p, hp, r, e3, _⟩ := (mem n).mp hn
    rw [(q.1.mp h).2 p hp] at e3; cases e3
  · refine q.1.mpr ⟨rfl, fun p hp => ?_⟩
    cases e3 : T_ring_from (T_refs_of b) p with
    | none => rfl
    | some r =>
      have := (mem r.length).mpr ⟨p, hp, r, e3, rfl⟩
      rw [h] at this; simp at this
  · obtain ⟨a1, _, a3⟩ := q.2 r h
    rcases a1 with z | ⟨p, hp, e3⟩
    · cases z
    · have hm := (mem r.length).mpr ⟨p, hp, r, e3, rfl⟩
      have hne := List.ne_nil_of_mem hm
      have hs := minN_spec hne
      have hse := ring_eq (first := p) hr
      rw [e3] at hse
      refine ⟨hne, Nat.le_antisymm ?_ (hs.2 _ hm), ?_, p, hse.g⟩
      · obtain ⟨p', hp', r', e4, e5⟩ := (mem _).mp hs.1
        rw [e5]; exact a3 p' hp' r' e4
      · refine Nat.le_trans (short_len (G := GOALS) hse fun e he => ?_) (Nat.succ_le_succ goalsN)
        obtain ⟨x, hx, z⟩ := List.mem_map.mp he
        rw [← z]; exact hG x hx
theorem ring_links {E : List (List OkS × List OkS)} {p : List OkS} {r : List (List OkS)} (h : Ring E p [] r) : (List.range r.length).filter (fun k => !decide ((ixP r k [], r.getD k []) ∈ E)) = [] := by
  refine List.filter_eq_nil_iff.mpr fun k hk => ?_
  have hk := List.mem_range.mp hk
  have : (ixP r k [], r.getD k []) ∈ E := by
    unfold ixP
    by_cases c : k = 0
    · rw [if_pos c]; subst c; rw [h.f.at0]; exact h.c
    · rw [if_neg c]
      have := h.f.l (k - 1) (by omega)
      rw [show k - 1 + 1 = k by omega] at this
      exact this
  show ¬ (!decide ((ixP r k [], r.getD k []) ∈ E)) = true
  rw [decide_eq_true this]; simp
/-! the body that is drawn -/
def bz : Nat → Nat
  | 0 => 0
  | n + 1 => 4 * (1 + bz n)
theorem own_ok {ds : List Int} {i : Nat} : ((mapS (fun (i10 : Nat) (k11 : Nat) => ((pkT ds i10 WDS dS0), i10 + 1)) (i + 1 + 1) (List.range (nx ds (i + 1) (4 : Int)).toNat)).1).length ≤ 3 ∧ ∀ x ∈ (mapS (fun (i10 : Nat) (k11 : Nat) => ((pkT ds i10 WDS dS0), i10 + 1)) (i + 1 + 1) (List.range (nx ds (i + 1) (4 : Int)).toNat)).1, x ∈ WDS := by
  have hb := nx_bd ds (i + 1) 4 (by decide)
  refine ⟨?_, fun x hx => mapS_all (fun x => x ∈ WDS) (fun s x => pkT_mem (by simp)) _ _ x hx⟩
  rw [mapS_len, List.length_range]; omega
theorem body_wf : ∀ (d : Nat) (ds : List Int) (i n : Nat) (deep : Int), 0 ≤ deep → deep < d → n = deep.toNat + 1 → WfB PL n (T__law_body d ds i deep WDS).1 ∧ szB (T__law_body d ds i deep WDS).1 ≤ bz n
  | 0, _, _, _, _, h1, h2, _ => by omega
  | d + 1, ds, i, n, deep, h1, h2, hn => by
    subst hn
    unfold T__law_body Let
    dsimp only
    have key := foldl_ix (P := fun k (s : List Nd × Nat) => (s.1.map Nd.lab).Sublist (LABS.take k) ∧ ∀ x ∈ s.1, (PL x.lab x.words ∧ WfB PL deep.toNat x.kids) ∧ szB x.kids ≤ bz deep.toNat) (xs := LABS) (s := ([], i)) (f := fun (s2 : ((List Nd) × Nat)) (label4 : OkS) => if ((decide ((1 : Int) < (nx ds s2.2 (5 : Int)))) || ((decide ((1 : Int) < deep)) && (decide (label4 = (okS "1"))))) = true then ((s2.1 ++ [(Nd.mk label4 (mapS (fun (i10 : Nat) (k11 : Nat) => ((pkT ds i10 WDS dS0), i10 + 1)) (s2.2 + 1 + 1) (List.range (nx ds (s2.2 + 1) (4 : Int)).toNat)).1 (if ((decide ((0 : Int) < deep)) && (decide ((nx ds (mapS (fun (i10 : Nat) (k11 : Nat) => ((pkT ds i10 WDS dS0), i10 + 1)) (s2.2 + 1 + 1) (List.range (nx ds (s2.2 + 1) (4 : Int)).toNat)).2 (2 : Int)) = (0 : Int)))) = true then (T__law_body d ds (if (decide ((0 : Int) < deep)) = true then (mapS (fun (i10 : Nat) (k11 : Nat) => ((pkT ds i10 WDS dS0), i10 + 1)) (s2.2 + 1 + 1) (List.range (nx ds (s2.2 + 1) (4 : Int)).toNat)).2 + 1 else (mapS (fun (i10 : Nat) (k11 : Nat) => ((pkT ds i10 WDS dS0), i10 + 1)) (s2.2 + 1 + 1) (List.range (nx ds (s2.2 + 1) (4 : Int)).toNat)).2) (deep - (1 : Int)) WDS).1 else []))]), (if ((decide ((0 : Int) < deep)) && (decide ((nx ds (mapS (fun (i10 : Nat) (k11 : Nat) => ((pkT ds i10 WDS dS0), i10 + 1)) (s2.2 + 1 + 1) (List.range (nx ds (s2.2 + 1) (4 : Int)).toNat)).2 (2 : Int)) = (0 : Int)))) = true then (T__law_body d ds (if (decide ((0 : Int) < deep)) = true then (mapS (fun (i10 : Nat) (k11 : Nat) => ((pkT ds i10 WDS dS0), i10 + 1)) (s2.2 + 1 + 1) (List.range (nx ds (s2.2 + 1) (4 : Int)).toNat)).2 + 1 else (mapS (fun (i10 : Nat) (k11 : Nat) => ((pkT ds i10 WDS dS0), i10 + 1)) (s2.2 + 1 + 1) (List.range (nx ds (s2.2 + 1) (4 : Int)).toNat)).2) (deep - (1 : Int)) WDS).2 else (if (decide ((0 : Int) < deep)) = true then (mapS (fun (i10 : Nat) (k11 : Nat) => ((pkT ds i10 WDS dS0), i10 + 1)) (s2.2 + 1 + 1) (List.range (nx ds (s2.2 + 1) (4 : Int)).toNat)).2 + 1 else (mapS (fun (i10 : Nat) (k11 : Nat) => ((pkT ds i10 WDS dS0), i10 + 1)) (s2.2 + 1 + 1) (List.range (nx ds (s2.2 + 1) (4 : Int)).toNat)).2))) else (s2.1, s2.2 + 1)) ⟨.slnil, fun x hx => by simp at hx⟩ (fun k s x hx hs => by
      rw [take_snoc hx]
      by_cases c : ((decide ((1 : Int) < (nx ds s.2 (5 : Int)))) || ((decide ((1 : Int) < deep)) && (decide (x = (okS "1"))))) = true
      · rw [if_pos c]
        refine ⟨?_, fun y hy => ?_⟩
        · show ((s.1 ++ [_]).map Nd.lab).Sublist _
          rw [List.map_append]
          exact hs.1.append (List.Sublist.refl _)
        · rcases List.mem_append.mp hy with z | z
          · exact hs.2 y z
          · rw [List.mem_singleton.mp z]
            have ho := own_ok (ds := ds) (i := s.2)
            refine ⟨⟨⟨List.mem_of_getElem? hx, ho.1, ho.2⟩, ?_⟩, ?_⟩
            · show WfB PL deep.toNat (if _ then _ else _)
              split
              · rename_i hc
                have hc := of_decide_eq_true (and1 hc)
                exact (body_wf d ds _ deep.toNat (deep - 1) (by omega) (by omega) (by omega)).1
              · exact wfB_nil _
            · show szB (if _ then _ else _) ≤ _
              split
              · rename_i hc
                have hc := of_decide_eq_true (and1 hc)
                exact (body_wf d ds _ deep.toNat (deep - 1) (by omega) (by omega) (by omega)).2
              · rw [szB_nil]; exact Nat.zero_le _
      · rw [if_neg c]
        exact ⟨hs.1.trans (List.sublist_append_left _ _), hs.2⟩)
    generalize List.foldl _ (([] : List Nd), i) LABS = t at key ⊢
    obtain ⟨k1, k2⟩ := key
    have hnd : (t.1.map Nd.lab).Nodup := List.Nodup.sublist k1 (by decide +kernel)
    have hlen : t.1.length ≤ 4 := by
      have := k1.length_le
      rw [List.length_map] at this
      exact Nat.le_trans this (by decide)
    refine ⟨⟨hnd, fun x hx => (k2 x hx).1⟩, ?_⟩
    have : ∀ (l : List Nd), (∀ x ∈ l, szB x.kids ≤ bz deep.toNat) → szB l ≤ l.length * (1 + bz deep.toNat) := fun l => by
      induction l with
      | nil => intro _; rw [szB_nil]; simp
      | cons x l ih =>
        intro hx
        have h3 := ih fun y hy => hx y (by simp [hy])
        have h4 := hx x (by simp)
        rw [szB_cons, szN_eq, List.length_cons, Nat.add_mul, Nat.one_mul]; omega
    refine Nat.le_trans (this t.1 fun x hx => (k2 x hx).2) ?_
    show _ ≤ 4 * (1 + bz deep.toNat)
    exact Nat.mul_le_mul_right _ hlen
theorem refs_S {b : List Nd} (hW : WfB PL LV b) : ∀ r ∈ T_refs_of b, r.1.length ≤ 3 ∧ r.2.2.length ≤ 10 := by
  have hg : ∀ g ∈ GOALS, g.length ≤ 10 := by decide +kernel
  refine fun r hr => ⟨?_, hg _ (refs_G hW r hr)⟩
  revert r hr
  unfold T_refs_of Let
  dsimp only
  rw [all_paths_eq 5 b (lv5 hW)]
  refine foldl_ind (P := fun (s : List YRef) => ∀ r ∈ s, r.1.length ≤ 3) (fun r hr => by simp at hr) fun s p hp hs => ?_
  refine foldl_ind (P := fun (s : List YRef) => ∀ r ∈ s, r.1.length ≤ 3) hs fun s k hk hs => ?_
  split
  · intro r hr
    rcases List.mem_append.mp hr with z | z
    · exact hs r z
    · rw [List.mem_singleton.mp z]
      exact prB_lv 3 (wfB_lv hW) hp
  · exact hs
theorem dang_mem {b : List Nd} {r : YRef} (h : r ∈ T_dangling b) : r ∈ T_refs_of b := (List.mem_filter.mp h).1
theorem to_mem {b : List Nd} {p : List OkS} {r : YRef} (h : r ∈ T_refs_to b p) : r ∈ T_refs_of b := (List.mem_filter.mp h).1
theorem dang_len (b : List Nd) : (T_dangling b).length ≤ (T_refs_of b).length := List.length_filter_le _ _
theorem to_len (b : List Nd) (p : List OkS) : (T_refs_to b p).length ≤ (T_refs_of b).length := List.length_filter_le _ _
section
variable {ring : Option (List (List OkS))} {fars : List Nat} {E : List (List OkS × List OkS)}
theorem ring_ns (h0 : ring = none ↔ fars = []) (hc : decide (fars = []) = false) : ring.isNone = false := by
  cases ring with
  | none => exact absurd (h0.mp rfl) (of_decide_eq_false hc)
  | some r => rfl
theorem ring_ln (h0 : ring = none ↔ fars = []) (h1 : ∀ r, ring = some r → fars ≠ [] ∧ r.length = minN fars ∧ r.length ≤ 17 ∧ ∃ p, Ring E p [] r) (hc : decide (fars = []) = false) : (!true || !decide ((ring.getD []).length = minN fars)) = false := by
  cases ring with
  | none => exact absurd (h0.mp rfl) (of_decide_eq_false hc)
  | some r =>
    have := (h1 r rfl).2.1
    show (!true || !decide (r.length = minN fars)) = false
    rw [decide_eq_true this]; rfl
theorem ring_17 (h0 : ring = none ↔ fars = []) (h1 : ∀ r, ring = some r → fars ≠ [] ∧ r.length = minN fars ∧ r.length ≤ 17 ∧ ∃ p, Ring E p [] r) : (ring.getD []).length ≤ 17 := by
  cases ring with
  | none => exact Nat.zero_le _
  | some r => exact (h1 r rfl).2.2.1
theorem ring_fin (h0 : ring = none ↔ fars = []) (h1 : ∀ r, ring = some r → fars ≠ [] ∧ r.length = minN fars ∧ r.length ≤ 17 ∧ ∃ p, Ring E p [] r) (hc : decide (fars = []) = false) : (!decide (List.filter (fun k35 => !decide ((ixP (ring.getD []) k35 [], (ring.getD []).getD k35 []) ∈ E)) (List.range (ring.getD []).length) = [])) = false := by
  cases ring with
  | none => exact absurd (h0.mp rfl) (of_decide_eq_false hc)
  | some r =>
    obtain ⟨_, _, _, p, hp⟩ := h1 r rfl
    have := ring_links hp
    show (!decide (List.filter (fun k35 => !decide ((ixP r k35 [], r.getD k35 []) ∈ E)) (List.range r.length) = [])) = false
    rw [this]; rfl
end
--LAWSTART
theorem law_tv (script : List Int) (hs : script.length ≤ 63) : ∃ E_, Ev [.fz (eL eI script)] f_law .val (eB true) E_ := by
  unfold f_law
  refine ⟨_, ev_run (n := 1) (enc := eB) (outs := fun _ => [.any, .any, .any, .any, .any, .any, .any, .any, .any, .any, .any, .any, .any, .any, .any, .any]) (v := true) ?_⟩
  unfold b_law
  show Sg [.fz ((eL eI) script), .any, .any, .any, .any, .any, .any, .any, .any, .any, .any, .any, .any, .any, .any, .any] _ _ _
  refine sg_w (script := script) hs (by decide) rfl ltT fun ds => ?_
  show Sg [.fz ((eL eI) script), .ow (Wd ds ((0 : Nat) : Int)), .any, .any, .any, .any, .any, .any, .any, .any, .any, .any, .any, .any, .any, .any] _ _ _
  refine sg_forX (enc := eN) (xs := (List.range 5)) (fun (s1 : (Nat)) => [.fz ((eL eI) script), .ow (Wd ds ((s1 : Nat) : Int)), .any, .any, .any, .any, .any, .any, .any, .any, .any, .any, .any, .any, .any, .any]) 0 (fun (k : Nat) (s1 : (Nat)) => True) (ew_rgN (n := 5) ev_C (by first | exact scQ | rfl | exact hs | exact hs1 | exact hW | exact ⟨hd_, hs1, by decide⟩ | exact hrl | exact Nat.le_trans (refs_len hd_ hW hs) (by decide) | exact Nat.le_trans (dang_len _) (Nat.le_trans (refs_len hd_ hW hs) (by decide)) | exact Nat.le_trans (to_len _ _) (Nat.le_trans (refs_len hd_ hW hs) (by decide)) | exact (by simpa using (by assumption : (!decide (paths9 = ([] : List YPath))) = true)) | omega | exact (by simpa using (by assumption : (!far24.isNone) = true)) | exact ring_ns hr0 (by assumption) | exact of_decide_eq_false (by assumption) | exact List.mem_range.mp (by assumption) | (rw [List.length_range]; omega) /-1-/)) leT (by trivial) (fun k2 turn3 s1 hk4 hI5 => ⟨_, tg_n, ?_⟩) (fun s1 hI5 => ?_)
  · show Sg [.fz ((eL eI) script), .ow (Wd ds ((s1 : Nat) : Int)), .fz (eN turn3), .any, .any, .any, .any, .any, .any, .any, .any, .any, .any, .any, .any, .any] _ _ _
    have hlthk4 := lt_of_get hk4
    have hmhk4 := List.mem_of_getElem? hk4
    refine sg_set (d := (yBody ((T__law_body 5 ds s1 (2 : Int) (T__law_words )).1))) (ev_call (tv__law_body 5 ds s1 (2 : Int) (T__law_words ) (by first | exact scQ | rfl | exact hs | exact hs1 | exact hW | exact ⟨hd_, hs1, by decide⟩ | exact hrl | exact Nat.le_trans (refs_len hd_ hW hs) (by decide) | exact Nat.le_trans (dang_len _) (Nat.le_trans (refs_len hd_ hW hs) (by decide)) | exact Nat.le_trans (to_len _ _) (Nat.le_trans (refs_len hd_ hW hs) (by decide)) | exact (by simpa using (by assumption : (!decide (paths9 = ([] : List YPath))) = true)) | omega | exact (by simpa using (by assumption : (!far24.isNone) = true)) | exact ring_ns hr0 (by assumption) | exact of_decide_eq_false (by assumption) | exact List.mem_range.mp (by assumption) | (rw [List.length_range]; omega) /-2-/) (by first | exact scQ | rfl | exact hs | exact hs1 | exact hW | exact ⟨hd_, hs1, by decide⟩ | exact hrl | exact Nat.le_trans (refs_len hd_ hW hs) (by decide) | exact Nat.le_trans (dang_len _) (Nat.le_trans (refs_len hd_ hW hs) (by decide)) | exact Nat.le_trans (to_len _ _) (Nat.le_trans (refs_len hd_ hW hs) (by decide)) | exact (by simpa using (by assumption : (!decide (paths9 = ([] : List YPath))) = true)) | omega | exact (by simpa using (by assumption : (!far24.isNone) = true)) | exact ring_ns hr0 (by assumption) | exact of_decide_eq_false (by assumption) | exact List.mem_range.mp (by assumption) | (rw [List.length_range]; omega) /-3-/)) (ea_consO (i := 1) rfl (ea_cons (da := (eI (2 : Int))) ev_C (ea_cons (da := ((eL eS) (T__law_words ))) (ev_call (tv__law_words  ) ea_nil rdT) ea_nil))) rdT) ?_
    refine sg_gen0 (fun body6 : YBody => [.fz ((eL eI) script), .ow (Wd ds (((T__law_body 5 ds s1 (2 : Int) (T__law_words )).2 : Nat) : Int)), .fz (eN turn3), .fz (yBody body6), .any, .any, .any, .any, .any, .any, .any, .any, .any, .any, .any, .any]) (x := (T__law_body 5 ds s1 (2 : Int) (T__law_words )).1) fun body6 hbody6 => ?_
    have hBW := body_wf 5 ds s1 3 2 (by decide) (by decide) (by decide)
    rw [← show T__law_words = WDS from rfl, ← hbody6] at hBW
    have hW : WfB PL LV body6 := hBW.1
    have hs : szB body6 ≤ 100 := Nat.le_trans hBW.2 (by decide)
    have hs1 : szB body6 ≤ 1000 := by omega
    have hd_ := lv5 hW
    refine sg_gen0 (fun i7 : Nat => [.fz ((eL eI) script), .ow (Wd ds ((i7 : Nat) : Int)), .fz (eN turn3), .fz (yBody body6), .any, .any, .any, .any, .any, .any, .any, .any, .any, .any, .any, .any]) (x := (T__law_body 5 ds s1 (2 : Int) (T__law_words )).2) fun i7 hi7 => ?_
    refine sg_par (ea_cons (da := ((eL yRef) (T__law_refs body6))) (ev_call (tv__law_refs body6 (by first | exact scQ | rfl | exact hs | exact hs1 | exact hW | exact ⟨hd_, hs1, by decide⟩ | exact hrl | exact Nat.le_trans (refs_len hd_ hW hs) (by decide) | exact Nat.le_trans (dang_len _) (Nat.le_trans (refs_len hd_ hW hs) (by decide)) | exact Nat.le_trans (to_len _ _) (Nat.le_trans (refs_len hd_ hW hs) (by decide)) | exact (by simpa using (by assumption : (!decide (paths9 = ([] : List YPath))) = true)) | omega | exact (by simpa using (by assumption : (!far24.isNone) = true)) | exact ring_ns hr0 (by assumption) | exact of_decide_eq_false (by assumption) | exact List.mem_range.mp (by assumption) | (rw [List.length_range]; omega) /-4-/) (by first | exact scQ | rfl | exact hs | exact hs1 | exact hW | exact ⟨hd_, hs1, by decide⟩ | exact hrl | exact Nat.le_trans (refs_len hd_ hW hs) (by decide) | exact Nat.le_trans (dang_len _) (Nat.le_trans (refs_len hd_ hW hs) (by decide)) | exact Nat.le_trans (to_len _ _) (Nat.le_trans (refs_len hd_ hW hs) (by decide)) | exact (by simpa using (by assumption : (!decide (paths9 = ([] : List YPath))) = true)) | omega | exact (by simpa using (by assumption : (!far24.isNone) = true)) | exact ring_ns hr0 (by assumption) | exact of_decide_eq_false (by assumption) | exact List.mem_range.mp (by assumption) | (rw [List.length_range]; omega) /-5-/)) (ea_cons (da := (yBody body6)) (ev_fz (i := 3) rfl) ea_nil) rdT) (ea_cons (da := ((eL yPath) (T__law_paths 5 body6))) (ev_call (tv__law_paths 5 body6 (by first | exact scQ | rfl | exact hs | exact hs1 | exact hW | exact ⟨hd_, hs1, by decide⟩ | exact hrl | exact Nat.le_trans (refs_len hd_ hW hs) (by decide) | exact Nat.le_trans (dang_len _) (Nat.le_trans (refs_len hd_ hW hs) (by decide)) | exact Nat.le_trans (to_len _ _) (Nat.le_trans (refs_len hd_ hW hs) (by decide)) | exact (by simpa using (by assumption : (!decide (paths9 = ([] : List YPath))) = true)) | omega | exact (by simpa using (by assumption : (!far24.isNone) = true)) | exact ring_ns hr0 (by assumption) | exact of_decide_eq_false (by assumption) | exact List.mem_range.mp (by assumption) | (rw [List.length_range]; omega) /-6-/)) (ea_cons (da := (yBody body6)) (ev_fz (i := 3) rfl) ea_nil) rdT) ea_nil)) rdT ?_
    refine sg_gen0 (fun refs8 : (List YRef) => [.fz ((eL eI) script), .ow (Wd ds ((i7 : Nat) : Int)), .fz (eN turn3), .fz (yBody body6), .ow ((eL yRef) refs8), .ow ((eL yPath) (T__law_paths 5 body6)), .any, .any, .any, .any, .any, .any, .any, .any, .any, .any]) (x := (T__law_refs body6)) fun refs8 hrefs8 => ?_
    have hrl : refs8.length ≤ 300 := by rw [hrefs8, ← refs_eq hW]; exact refs_len hd_ hW hs
    refine sg_le (E1 := [.fz ((eL eI) script), .ow (Wd ds ((i7 : Nat) : Int)), .fz (eN turn3), .fz (yBody body6), .rd ((eL yRef) refs8), .ow ((eL yPath) (T__law_paths 5 body6)), .any, .any, .any, .any, .any, .any, .any, .any, .any, .any]) leT ?_
    refine sg_gen0 (fun paths9 : (List YPath) => [.fz ((eL eI) script), .ow (Wd ds ((i7 : Nat) : Int)), .fz (eN turn3), .fz (yBody body6), .rd ((eL yRef) refs8), .ow ((eL yPath) paths9), .any, .any, .any, .any, .any, .any, .any, .any, .any, .any]) (x := (T__law_paths 5 body6)) fun paths9 hpaths9 => ?_
    have hpl : paths9.length ≤ 100 := by rw [hpaths9, law_paths_eq 5 _ hd_, prB_len]; exact hs
    refine sg_le (E1 := [.fz ((eL eI) script), .ow (Wd ds ((i7 : Nat) : Int)), .fz (eN turn3), .fz (yBody body6), .rd ((eL yRef) refs8), .rd ((eL yPath) paths9), .any, .any, .any, .any, .any, .any, .any, .any, .any, .any]) leT ?_
    refine sg_ifF (p := (!true)) (tj_not (p := true) (tj_b (p := true) (ev_call (tv__law_same (eT yRef) 6 (T_refs_of body6) refs8 (okv_tl (by first | exact scQ | rfl | exact hs | exact hs1 | exact hW | exact ⟨hd_, hs1, by decide⟩ | exact hrl | exact Nat.le_trans (refs_len hd_ hW hs) (by decide) | exact Nat.le_trans (dang_len _) (Nat.le_trans (refs_len hd_ hW hs) (by decide)) | exact Nat.le_trans (to_len _ _) (Nat.le_trans (refs_len hd_ hW hs) (by decide)) | exact (by simpa using (by assumption : (!decide (paths9 = ([] : List YPath))) = true)) | omega | exact (by simpa using (by assumption : (!far24.isNone) = true)) | exact ring_ns hr0 (by assumption) | exact of_decide_eq_false (by assumption) | exact List.mem_range.mp (by assumption) | (rw [List.length_range]; omega) /-10-/) (fun _ _ => (okv_3 (okv_tl (by rename_i x_ hx_; exact Nat.le_trans (refs_S hW x_ hx_).1 (by decide) /-11-/) (fun _ _ => okv_s)) okv_n (okv_tl (by rename_i x_ hx_; exact Nat.le_trans (refs_S hW x_ hx_).2 (by decide) /-12-/) (fun _ _ => okv_s))))) (by rw [hrefs8, refs_eq hW] /-9-/)) (ea_cons (da := ((eT yRef) (T_refs_of body6))) (ev_call (tv_refs_of body6 (by first | exact scQ | rfl | exact hs | exact hs1 | exact hW | exact ⟨hd_, hs1, by decide⟩ | exact hrl | exact Nat.le_trans (refs_len hd_ hW hs) (by decide) | exact Nat.le_trans (dang_len _) (Nat.le_trans (refs_len hd_ hW hs) (by decide)) | exact Nat.le_trans (to_len _ _) (Nat.le_trans (refs_len hd_ hW hs) (by decide)) | exact (by simpa using (by assumption : (!decide (paths9 = ([] : List YPath))) = true)) | omega | exact (by simpa using (by assumption : (!far24.isNone) = true)) | exact ring_ns hr0 (by assumption) | exact of_decide_eq_false (by assumption) | exact List.mem_range.mp (by assumption) | (rw [List.length_range]; omega) /-7-/) (by first | exact scQ | rfl | exact hs | exact hs1 | exact hW | exact ⟨hd_, hs1, by decide⟩ | exact hrl | exact Nat.le_trans (refs_len hd_ hW hs) (by decide) | exact Nat.le_trans (dang_len _) (Nat.le_trans (refs_len hd_ hW hs) (by decide)) | exact Nat.le_trans (to_len _ _) (Nat.le_trans (refs_len hd_ hW hs) (by decide)) | exact (by simpa using (by assumption : (!decide (paths9 = ([] : List YPath))) = true)) | omega | exact (by simpa using (by assumption : (!far24.isNone) = true)) | exact ring_ns hr0 (by assumption) | exact of_decide_eq_false (by assumption) | exact List.mem_range.mp (by assumption) | (rw [List.length_range]; omega) /-8-/)) (ea_cons (da := (yBody body6)) (ev_fz (i := 3) rfl) ea_nil) rdT) (ea_cons (da := ((eT yRef) refs8)) (ev_tupL (enc := yRef) (xs := refs8) (ev_rd (i := 4) rfl)) ea_nil)) rdT))) (by exact lawpT /-13-/) (sg_skip ?_)
    show Sg [.fz ((eL eI) script), .ow (Wd ds ((i7 : Nat) : Int)), .fz (eN turn3), .fz (yBody body6), .rd ((eL yRef) refs8), .rd ((eL yPath) paths9), .any, .any, .any, .any, .any, .any, .any, .any, .any, .any] _ _ _
    refine sg_ifF (p := (!true)) (tj_not (p := true) (tj_b (p := true) (ev_call (tv__law_same (eT yRef) 6 (T_dangling body6) (refs8.filter (fun (ref10 : YRef) => (!decide (ref10.2.2 ∈ paths9)))) (okv_tl (by first | exact scQ | rfl | exact hs | exact hs1 | exact hW | exact ⟨hd_, hs1, by decide⟩ | exact hrl | exact Nat.le_trans (refs_len hd_ hW hs) (by decide) | exact Nat.le_trans (dang_len _) (Nat.le_trans (refs_len hd_ hW hs) (by decide)) | exact Nat.le_trans (to_len _ _) (Nat.le_trans (refs_len hd_ hW hs) (by decide)) | exact (by simpa using (by assumption : (!decide (paths9 = ([] : List YPath))) = true)) | omega | exact (by simpa using (by assumption : (!far24.isNone) = true)) | exact ring_ns hr0 (by assumption) | exact of_decide_eq_false (by assumption) | exact List.mem_range.mp (by assumption) | (rw [List.length_range]; omega) /-18-/) (fun _ _ => (okv_3 (okv_tl (by rename_i x_ hx_; exact Nat.le_trans (refs_S hW x_ (dang_mem hx_)).1 (by decide) /-19-/) (fun _ _ => okv_s)) okv_n (okv_tl (by rename_i x_ hx_; exact Nat.le_trans (refs_S hW x_ (dang_mem hx_)).2 (by decide) /-20-/) (fun _ _ => okv_s))))) (by rw [hrefs8, hpaths9, dang_eq hW] /-17-/)) (ea_cons (da := ((eT yRef) (T_dangling body6))) (ev_call (tv_dangling body6 (by first | exact scQ | rfl | exact hs | exact hs1 | exact hW | exact ⟨hd_, hs1, by decide⟩ | exact hrl | exact Nat.le_trans (refs_len hd_ hW hs) (by decide) | exact Nat.le_trans (dang_len _) (Nat.le_trans (refs_len hd_ hW hs) (by decide)) | exact Nat.le_trans (to_len _ _) (Nat.le_trans (refs_len hd_ hW hs) (by decide)) | exact (by simpa using (by assumption : (!decide (paths9 = ([] : List YPath))) = true)) | omega | exact (by simpa using (by assumption : (!far24.isNone) = true)) | exact ring_ns hr0 (by assumption) | exact of_decide_eq_false (by assumption) | exact List.mem_range.mp (by assumption) | (rw [List.length_range]; omega) /-15-/) (by first | exact scQ | rfl | exact hs | exact hs1 | exact hW | exact ⟨hd_, hs1, by decide⟩ | exact hrl | exact Nat.le_trans (refs_len hd_ hW hs) (by decide) | exact Nat.le_trans (dang_len _) (Nat.le_trans (refs_len hd_ hW hs) (by decide)) | exact Nat.le_trans (to_len _ _) (Nat.le_trans (refs_len hd_ hW hs) (by decide)) | exact (by simpa using (by assumption : (!decide (paths9 = ([] : List YPath))) = true)) | omega | exact (by simpa using (by assumption : (!far24.isNone) = true)) | exact ring_ns hr0 (by assumption) | exact of_decide_eq_false (by assumption) | exact List.mem_range.mp (by assumption) | (rw [List.length_range]; omega) /-16-/)) (ea_cons (da := (yBody body6)) (ev_fz (i := 3) rfl) ea_nil) rdT) (ea_cons (da := ((eT yRef) (refs8.filter (fun (ref10 : YRef) => (!decide (ref10.2.2 ∈ paths9)))))) (ev_tupL (enc := yRef) (xs := (refs8.filter (fun (ref10 : YRef) => (!decide (ref10.2.2 ∈ paths9))))) (Ev.eq (ev_lc (enc := yRef) (encB := yRef) (xs := refs8) (p := (fun (ref10 : YRef) => (!decide (ref10.2.2 ∈ paths9)))) (fe := (fun (ref10 : YRef) => ref10)) (ew_nam (d := ((eL yRef) refs8)) (ev_rd (i := 4) rfl) rfl) (by first | exact scQ | rfl | exact hs | exact hs1 | exact hW | exact ⟨hd_, hs1, by decide⟩ | exact hrl | exact Nat.le_trans (refs_len hd_ hW hs) (by decide) | exact Nat.le_trans (dang_len _) (Nat.le_trans (refs_len hd_ hW hs) (by decide)) | exact Nat.le_trans (to_len _ _) (Nat.le_trans (refs_len hd_ hW hs) (by decide)) | exact (by simpa using (by assumption : (!decide (paths9 = ([] : List YPath))) = true)) | omega | exact (by simpa using (by assumption : (!far24.isNone) = true)) | exact ring_ns hr0 (by assumption) | exact of_decide_eq_false (by assumption) | exact List.mem_range.mp (by assumption) | (rw [List.length_range]; omega) /-14-/) (fun ref10 hx11 => ⟨_, tg_n, (tj_cmp (p := (!decide (ref10.2.2 ∈ paths9))) (da := (yPath ref10.2.2)) (db := ((eL yPath) paths9)) (ev_ixC (d := (yRef ref10)) (d' := (yPath ref10.2.2)) (ev_fz (i := 6) rfl) rfl) (ev_rd (i := 5) rfl) (gNotIn_gl (gd_tl (gd_str (n := 0))))), (fun _ => leT), fun hp12 => ⟨_, _, (ev_fz (i := 6) rfl), leT⟩⟩)) (map_id_e _ _))) ea_nil)) rdT))) (by exact lawpT /-21-/) (sg_skip ?_)
    show Sg [.fz ((eL eI) script), .ow (Wd ds ((i7 : Nat) : Int)), .fz (eN turn3), .fz (yBody body6), .rd ((eL yRef) refs8), .rd ((eL yPath) paths9), .any, .any, .any, .any, .any, .any, .any, .any, .any, .any] _ _ _
    refine sg_set (d := (yPath (if (!decide (paths9 = ([] : (List YPath)))) = true then (pkT ds i7 paths9 []) else [(okS "1")]))) (ev_ifS (enc := yPath) (x := (pkT ds i7 paths9 [])) (y := [(okS "1")]) (fun (i14 : Nat) => [.fz ((eL eI) script), .ow (Wd ds ((i14 : Nat) : Int)), .fz (eN turn3), .fz (yBody body6), .rd ((eL yRef) refs8), .rd ((eL yPath) paths9), .any, .any, .any, .any, .any, .any, .any, .any, .any, .any]) (s1 := i7 + 1) (s2 := i7) (tj_cmp (p := (!decide (paths9 = ([] : (List YPath))))) (da := ((eL yPath) paths9)) (db := ((eL yPath) ([] : (List YPath)))) (ev_rd (i := 5) rfl) (ev_lst ea_nil) (gNeX_nof (gNe_g (gd_list (gd_tl (gd_str (n := 0))))))) (fun hb13 => (ev_call (tv_pickL [] ds i7 paths9 yPath (by first | exact scQ | rfl | exact hs | exact hs1 | exact hW | exact ⟨hd_, hs1, by decide⟩ | exact hrl | exact Nat.le_trans (refs_len hd_ hW hs) (by decide) | exact Nat.le_trans (dang_len _) (Nat.le_trans (refs_len hd_ hW hs) (by decide)) | exact Nat.le_trans (to_len _ _) (Nat.le_trans (refs_len hd_ hW hs) (by decide)) | exact (by simpa using (by assumption : (!decide (paths9 = ([] : List YPath))) = true)) | omega | exact (by simpa using (by assumption : (!far24.isNone) = true)) | exact ring_ns hr0 (by assumption) | exact of_decide_eq_false (by assumption) | exact List.mem_range.mp (by assumption) | (rw [List.length_range]; omega) /-22-/)) (ea_consO (i := 1) rfl (ea_cons (da := ((eL yPath) paths9)) (ev_rd (i := 5) rfl) ea_nil)) rdT)) (fun hb13 => (ev_tup (ea_cons (da := (eS (okS "1"))) ev_C ea_nil)))) ?_
    refine sg_gen0 (fun path15 : YPath => [.fz ((eL eI) script), .ow (Wd ds (((if (!decide (paths9 = ([] : (List YPath)))) = true then i7 + 1 else i7) : Nat) : Int)), .fz (eN turn3), .fz (yBody body6), .rd ((eL yRef) refs8), .rd ((eL yPath) paths9), .any, .fz (yPath path15), .any, .any, .any, .any, .any, .any, .any, .any]) (x := (if (!decide (paths9 = ([] : (List YPath)))) = true then (pkT ds i7 paths9 []) else [(okS "1")])) fun path15 hpath15 => ?_
    refine sg_gen0 (fun i16 : Nat => [.fz ((eL eI) script), .ow (Wd ds ((i16 : Nat) : Int)), .fz (eN turn3), .fz (yBody body6), .rd ((eL yRef) refs8), .rd ((eL yPath) paths9), .any, .fz (yPath path15), .any, .any, .any, .any, .any, .any, .any, .any]) (x := (if (!decide (paths9 = ([] : (List YPath)))) = true then i7 + 1 else i7)) fun i16 hi16 => ?_
    refine sg_ifF (p := (!true)) (tj_not (p := true) (tj_b (p := true) (ev_call (tv__law_same (eT yRef) 6 (T_refs_to body6 path15) (refs8.filter (fun (ref17 : YRef) => (decide ((ref17.2.2.take path15.length) = path15)))) (okv_tl (by first | exact scQ | rfl | exact hs | exact hs1 | exact hW | exact ⟨hd_, hs1, by decide⟩ | exact hrl | exact Nat.le_trans (refs_len hd_ hW hs) (by decide) | exact Nat.le_trans (dang_len _) (Nat.le_trans (refs_len hd_ hW hs) (by decide)) | exact Nat.le_trans (to_len _ _) (Nat.le_trans (refs_len hd_ hW hs) (by decide)) | exact (by simpa using (by assumption : (!decide (paths9 = ([] : List YPath))) = true)) | omega | exact (by simpa using (by assumption : (!far24.isNone) = true)) | exact ring_ns hr0 (by assumption) | exact of_decide_eq_false (by assumption) | exact List.mem_range.mp (by assumption) | (rw [List.length_range]; omega) /-27-/) (fun _ _ => (okv_3 (okv_tl (by rename_i x_ hx_; exact Nat.le_trans (refs_S hW x_ (to_mem hx_)).1 (by decide) /-28-/) (fun _ _ => okv_s)) okv_n (okv_tl (by rename_i x_ hx_; exact Nat.le_trans (refs_S hW x_ (to_mem hx_)).2 (by decide) /-29-/) (fun _ _ => okv_s))))) (by rw [hrefs8, to_eq hW] /-26-/)) (ea_cons (da := ((eT yRef) (T_refs_to body6 path15))) (ev_call (tv_refs_to body6 path15 (by first | exact scQ | rfl | exact hs | exact hs1 | exact hW | exact ⟨hd_, hs1, by decide⟩ | exact hrl | exact Nat.le_trans (refs_len hd_ hW hs) (by decide) | exact Nat.le_trans (dang_len _) (Nat.le_trans (refs_len hd_ hW hs) (by decide)) | exact Nat.le_trans (to_len _ _) (Nat.le_trans (refs_len hd_ hW hs) (by decide)) | exact (by simpa using (by assumption : (!decide (paths9 = ([] : List YPath))) = true)) | omega | exact (by simpa using (by assumption : (!far24.isNone) = true)) | exact ring_ns hr0 (by assumption) | exact of_decide_eq_false (by assumption) | exact List.mem_range.mp (by assumption) | (rw [List.length_range]; omega) /-24-/) (by first | exact scQ | rfl | exact hs | exact hs1 | exact hW | exact ⟨hd_, hs1, by decide⟩ | exact hrl | exact Nat.le_trans (refs_len hd_ hW hs) (by decide) | exact Nat.le_trans (dang_len _) (Nat.le_trans (refs_len hd_ hW hs) (by decide)) | exact Nat.le_trans (to_len _ _) (Nat.le_trans (refs_len hd_ hW hs) (by decide)) | exact (by simpa using (by assumption : (!decide (paths9 = ([] : List YPath))) = true)) | omega | exact (by simpa using (by assumption : (!far24.isNone) = true)) | exact ring_ns hr0 (by assumption) | exact of_decide_eq_false (by assumption) | exact List.mem_range.mp (by assumption) | (rw [List.length_range]; omega) /-25-/)) (ea_cons (da := (yBody body6)) (ev_fz (i := 3) rfl) (ea_cons (da := (yPath path15)) (ev_fz (i := 7) rfl) ea_nil)) rdT) (ea_cons (da := ((eT yRef) (refs8.filter (fun (ref17 : YRef) => (decide ((ref17.2.2.take path15.length) = path15)))))) (ev_tupL (enc := yRef) (xs := (refs8.filter (fun (ref17 : YRef) => (decide ((ref17.2.2.take path15.length) = path15))))) (Ev.eq (ev_lc (enc := yRef) (encB := yRef) (xs := refs8) (p := (fun (ref17 : YRef) => (decide ((ref17.2.2.take path15.length) = path15)))) (fe := (fun (ref17 : YRef) => ref17)) (ew_nam (d := ((eL yRef) refs8)) (ev_rd (i := 4) rfl) rfl) (by first | exact scQ | rfl | exact hs | exact hs1 | exact hW | exact ⟨hd_, hs1, by decide⟩ | exact hrl | exact Nat.le_trans (refs_len hd_ hW hs) (by decide) | exact Nat.le_trans (dang_len _) (Nat.le_trans (refs_len hd_ hW hs) (by decide)) | exact Nat.le_trans (to_len _ _) (Nat.le_trans (refs_len hd_ hW hs) (by decide)) | exact (by simpa using (by assumption : (!decide (paths9 = ([] : List YPath))) = true)) | omega | exact (by simpa using (by assumption : (!far24.isNone) = true)) | exact ring_ns hr0 (by assumption) | exact of_decide_eq_false (by assumption) | exact List.mem_range.mp (by assumption) | (rw [List.length_range]; omega) /-23-/) (fun ref17 hx18 => ⟨_, tg_n, (tj_cmp (p := (decide ((ref17.2.2.take path15.length) = path15))) (da := (yPath (ref17.2.2.take path15.length))) (db := (yPath path15)) (ev_slTt (enc := eS) (xs := ref17.2.2) (p := path15.length) (ev_ixC (d := (yRef ref17)) (d' := (yPath ref17.2.2)) (ev_fz (i := 6) rfl) rfl) (ep_part (ev_lenT (enc := eS) (xs := path15) (ev_fz (i := 7) rfl)))) (ev_fz (i := 7) rfl) (gEqX_of (gEq_g (gd_tl (gd_str (n := 0)))))), (fun _ => leT), fun hp19 => ⟨_, _, (ev_fz (i := 6) rfl), leT⟩⟩)) (map_id_e _ _))) ea_nil)) rdT))) (by exact lawpT /-30-/) (sg_skip ?_)
    show Sg [.fz ((eL eI) script), .ow (Wd ds ((i16 : Nat) : Int)), .fz (eN turn3), .fz (yBody body6), .rd ((eL yRef) refs8), .rd ((eL yPath) paths9), .any, .fz (yPath path15), .any, .any, .any, .any, .any, .any, .any, .any] _ _ _
    refine sg_set (d := ((eL (eO eN)) (paths9.map (fun (own20 : YPath) => (T__law_far refs8 own20))))) (ev_lcY (enc := yPath) (encB := (eO eN)) (xs := paths9) (fe := (fun (own20 : YPath) => (T__law_far refs8 own20))) (ew_nam (d := ((eL yPath) paths9)) (ev_rd (i := 5) rfl) rfl) (by first | exact scQ | rfl | exact hs | exact hs1 | exact hW | exact ⟨hd_, hs1, by decide⟩ | exact hrl | exact Nat.le_trans (refs_len hd_ hW hs) (by decide) | exact Nat.le_trans (dang_len _) (Nat.le_trans (refs_len hd_ hW hs) (by decide)) | exact Nat.le_trans (to_len _ _) (Nat.le_trans (refs_len hd_ hW hs) (by decide)) | exact (by simpa using (by assumption : (!decide (paths9 = ([] : List YPath))) = true)) | omega | exact (by simpa using (by assumption : (!far24.isNone) = true)) | exact ring_ns hr0 (by assumption) | exact of_decide_eq_false (by assumption) | exact List.mem_range.mp (by assumption) | (rw [List.length_range]; omega) /-32-/) (fun own20 hx21 => ⟨_, tg_n, _, _, (ev_call (tv__law_far refs8 own20 (by first | exact scQ | rfl | exact hs | exact hs1 | exact hW | exact ⟨hd_, hs1, by decide⟩ | exact hrl | exact Nat.le_trans (refs_len hd_ hW hs) (by decide) | exact Nat.le_trans (dang_len _) (Nat.le_trans (refs_len hd_ hW hs) (by decide)) | exact Nat.le_trans (to_len _ _) (Nat.le_trans (refs_len hd_ hW hs) (by decide)) | exact (by simpa using (by assumption : (!decide (paths9 = ([] : List YPath))) = true)) | omega | exact (by simpa using (by assumption : (!far24.isNone) = true)) | exact ring_ns hr0 (by assumption) | exact of_decide_eq_false (by assumption) | exact List.mem_range.mp (by assumption) | (rw [List.length_range]; omega) /-31-/)) (ea_cons (da := ((eL yRef) refs8)) (ev_rd (i := 4) rfl) (ea_cons (da := (yPath own20)) (ev_fz (i := 9) rfl) ea_nil)) rdT), leT⟩)) ?_
    refine sg_gen0 (fun fars23 : (List (Option Nat)) => [.fz ((eL eI) script), .ow (Wd ds ((i16 : Nat) : Int)), .fz (eN turn3), .fz (yBody body6), .rd ((eL yRef) refs8), .rd ((eL yPath) paths9), .any, .fz (yPath path15), .ow ((eL (eO eN)) fars23), .any, .any, .any, .any, .any, .any, .any]) (x := (paths9.map (fun (own20 : YPath) => (T__law_far refs8 own20)))) fun fars23 hfars23 => ?_
    have hfl : fars23.length ≤ 100 := by rw [hfars23, List.length_map]; exact hpl
    refine sg_le (E1 := [.fz ((eL eI) script), .ow (Wd ds ((i16 : Nat) : Int)), .fz (eN turn3), .fz (yBody body6), .rd ((eL yRef) refs8), .rd ((eL yPath) paths9), .any, .fz (yPath path15), .rd ((eL (eO eN)) fars23), .any, .any, .any, .any, .any, .any, .any]) leT ?_
    refine sg_set (d := ((eL eN) ((fars23.filter (fun (far24 : (Option Nat)) => (!far24.isNone))).map (fun (far24 : (Option Nat)) => (far24.getD 0))))) (ev_lc (enc := (eO eN)) (encB := eN) (xs := fars23) (p := (fun (far24 : (Option Nat)) => (!far24.isNone))) (fe := (fun (far24 : (Option Nat)) => (far24.getD 0))) (ew_nam (d := ((eL (eO eN)) fars23)) (ev_rd (i := 8) rfl) rfl) (by first | exact scQ | rfl | exact hs | exact hs1 | exact hW | exact ⟨hd_, hs1, by decide⟩ | exact hrl | exact Nat.le_trans (refs_len hd_ hW hs) (by decide) | exact Nat.le_trans (dang_len _) (Nat.le_trans (refs_len hd_ hW hs) (by decide)) | exact Nat.le_trans (to_len _ _) (Nat.le_trans (refs_len hd_ hW hs) (by decide)) | exact (by simpa using (by assumption : (!decide (paths9 = ([] : List YPath))) = true)) | omega | exact (by simpa using (by assumption : (!far24.isNone) = true)) | exact ring_ns hr0 (by assumption) | exact of_decide_eq_false (by assumption) | exact List.mem_range.mp (by assumption) | (rw [List.length_range]; omega) /-34-/) (fun far24 hx25 => ⟨_, tg_n, (tj_cmp (p := (!far24.isNone)) (da := ((eO eN) far24)) (db := PyData.none) (ev_fz (i := 10) rfl) ev_C (gIsNot_O (fun _ => rfl))), (fun _ => leT), fun hp26 => ⟨_, _, (Ev.eq (ev_fz (i := 10) rfl) (eO_get 0 (by first | exact scQ | rfl | exact hs | exact hs1 | exact hW | exact ⟨hd_, hs1, by decide⟩ | exact hrl | exact Nat.le_trans (refs_len hd_ hW hs) (by decide) | exact Nat.le_trans (dang_len _) (Nat.le_trans (refs_len hd_ hW hs) (by decide)) | exact Nat.le_trans (to_len _ _) (Nat.le_trans (refs_len hd_ hW hs) (by decide)) | exact (by simpa using (by assumption : (!decide (paths9 = ([] : List YPath))) = true)) | omega | exact (by simpa using (by assumption : (!far24.isNone) = true)) | exact ring_ns hr0 (by assumption) | exact of_decide_eq_false (by assumption) | exact List.mem_range.mp (by assumption) | (rw [List.length_range]; omega) /-33-/))), leT⟩⟩)) ?_
    refine sg_gen0 (fun fars27 : (List Nat) => [.fz ((eL eI) script), .ow (Wd ds ((i16 : Nat) : Int)), .fz (eN turn3), .fz (yBody body6), .rd ((eL yRef) refs8), .rd ((eL yPath) paths9), .any, .fz (yPath path15), .ow ((eL eN) fars27), .any, .any, .any, .any, .any, .any, .any]) (x := ((fars23.filter (fun (far24 : (Option Nat)) => (!far24.isNone))).map (fun (far24 : (Option Nat)) => (far24.getD 0)))) fun fars27 hfars27 => ?_
    have hfe : fars27 = farsOf (T__law_refs body6) (T__law_paths 5 body6) := by rw [hfars27, hfars23, hrefs8, hpaths9]; rfl
    refine sg_le (E1 := [.fz ((eL eI) script), .ow (Wd ds ((i16 : Nat) : Int)), .fz (eN turn3), .fz (yBody body6), .rd ((eL yRef) refs8), .rd ((eL yPath) paths9), .any, .fz (yPath path15), .rd ((eL eN) fars27), .any, .any, .any, .any, .any, .any, .any]) leT ?_
    refine sg_set (d := ((eO (eT yPath)) (T_ref_ring body6))) (ev_call (tv_ref_ring body6 (by first | exact scQ | rfl | exact hs | exact hs1 | exact hW | exact ⟨hd_, hs1, by decide⟩ | exact hrl | exact Nat.le_trans (refs_len hd_ hW hs) (by decide) | exact Nat.le_trans (dang_len _) (Nat.le_trans (refs_len hd_ hW hs) (by decide)) | exact Nat.le_trans (to_len _ _) (Nat.le_trans (refs_len hd_ hW hs) (by decide)) | exact (by simpa using (by assumption : (!decide (paths9 = ([] : List YPath))) = true)) | omega | exact (by simpa using (by assumption : (!far24.isNone) = true)) | exact ring_ns hr0 (by assumption) | exact of_decide_eq_false (by assumption) | exact List.mem_range.mp (by assumption) | (rw [List.length_range]; omega) /-35-/) (by first | exact scQ | rfl | exact hs | exact hs1 | exact hW | exact ⟨hd_, hs1, by decide⟩ | exact hrl | exact Nat.le_trans (refs_len hd_ hW hs) (by decide) | exact Nat.le_trans (dang_len _) (Nat.le_trans (refs_len hd_ hW hs) (by decide)) | exact Nat.le_trans (to_len _ _) (Nat.le_trans (refs_len hd_ hW hs) (by decide)) | exact (by simpa using (by assumption : (!decide (paths9 = ([] : List YPath))) = true)) | omega | exact (by simpa using (by assumption : (!far24.isNone) = true)) | exact ring_ns hr0 (by assumption) | exact of_decide_eq_false (by assumption) | exact List.mem_range.mp (by assumption) | (rw [List.length_range]; omega) /-36-/)) (ea_cons (da := (yBody body6)) (ev_fz (i := 3) rfl) ea_nil) rdT) ?_
    refine sg_gen0 (fun ring28 : (Option (List YPath)) => [.fz ((eL eI) script), .ow (Wd ds ((i16 : Nat) : Int)), .fz (eN turn3), .fz (yBody body6), .rd ((eL yRef) refs8), .rd ((eL yPath) paths9), .any, .fz (yPath path15), .rd ((eL eN) fars27), .any, .any, .fz ((eO (eT yPath)) ring28), .any, .any, .any, .any]) (x := (T_ref_ring body6)) fun ring28 hring28 => ?_
    have hrm := ring_min hW hs
    rw [← hfe, ← hring28, ← hrefs8] at hrm
    have hr0 := hrm.1
    have hr1 := hrm.2
    have hr17 := ring_17 hr0 hr1
    refine sg_if0 (p := (decide (fars27 = ([] : (List Nat))))) (tj_cmp (p := (decide (fars27 = ([] : (List Nat))))) (da := ((eL eN) fars27)) (db := ((eL eN) ([] : (List Nat)))) (ev_rd (i := 8) rfl) (ev_lst ea_nil) (gEqX_of (gEq_g (gd_list (gd_nat (n := 0)))))) (fun hc29 => ?_) (fun hc29 => ?_)
    · show Sg [.fz ((eL eI) script), .ow (Wd ds ((i16 : Nat) : Int)), .fz (eN turn3), .fz (yBody body6), .rd ((eL yRef) refs8), .rd ((eL yPath) paths9), .any, .fz (yPath path15), .rd ((eL eN) fars27), .any, .any, .fz ((eO (eT yPath)) ring28), .any, .any, .any, .any] _ _ _
      refine sg_assoc ?_
      refine sg_ifF (p := (!ring28.isNone)) (tj_cmp (p := (!ring28.isNone)) (da := ((eO (eT yPath)) ring28)) (db := PyData.none) (ev_fz (i := 11) rfl) ev_C (gIsNot_O (fun _ => rfl))) (by rw [hr0.mpr (of_decide_eq_true (by assumption))]; rfl /-37-/) (sg_skip ?_)
      show Sg [.fz ((eL eI) script), .ow (Wd ds ((i16 : Nat) : Int)), .fz (eN turn3), .fz (yBody body6), .rd ((eL yRef) refs8), .rd ((eL yPath) paths9), .any, .fz (yPath path15), .rd ((eL eN) fars27), .any, .any, .fz ((eO (eT yPath)) ring28), .any, .any, .any, .any] _ _ _
      exact sg_cntX i16 (by trivial /-38-/) leT
    · show Sg [.fz ((eL eI) script), .ow (Wd ds ((i16 : Nat) : Int)), .fz (eN turn3), .fz (yBody body6), .rd ((eL yRef) refs8), .rd ((eL yPath) paths9), .any, .fz (yPath path15), .rd ((eL eN) fars27), .any, .any, .fz ((eO (eT yPath)) ring28), .any, .any, .any, .any] _ _ _
      refine sg_skip ?_
      refine sg_ifF (p := ((!true) || (!decide ((ring28.getD []).length = (minN fars27))))) (tj_or (p := (!true)) (q := (!decide ((ring28.getD []).length = (minN fars27)))) (tj_as [.fz ((eL eI) script), .ow (Wd ds ((i16 : Nat) : Int)), .fz (eN turn3), .fz (yBody body6), .rd ((eL yRef) refs8), .rd ((eL yPath) paths9), .any, .fz (yPath path15), .rd ((eL eN) fars27), .any, .any, .fz ((eO (eT yPath)) ring28), .any, .any, .any, .any] (tj_not (p := true) (tj_b (p := true) (ev_isiO (T := .tuple) (enc := (eT yPath)) (o := ring28) (ev_fz (i := 11) rfl) (by first | exact scQ | rfl | exact hs | exact hs1 | exact hW | exact ⟨hd_, hs1, by decide⟩ | exact hrl | exact Nat.le_trans (refs_len hd_ hW hs) (by decide) | exact Nat.le_trans (dang_len _) (Nat.le_trans (refs_len hd_ hW hs) (by decide)) | exact Nat.le_trans (to_len _ _) (Nat.le_trans (refs_len hd_ hW hs) (by decide)) | exact (by simpa using (by assumption : (!decide (paths9 = ([] : List YPath))) = true)) | omega | exact (by simpa using (by assumption : (!far24.isNone) = true)) | exact ring_ns hr0 (by assumption) | exact of_decide_eq_false (by assumption) | exact List.mem_range.mp (by assumption) | (rw [List.length_range]; omega) /-39-/) (fun _ => rfl) (fun _ => rfl))))) (fun hb30 => (tj_cmp (p := (!decide ((ring28.getD []).length = (minN fars27)))) (da := (eN ((ring28.getD []).length))) (db := (eN (minN fars27))) (ev_lenT (enc := yPath) (xs := (ring28.getD [])) (Ev.eq (ev_fz (i := 11) rfl) (eO_get [] (by first | exact scQ | rfl | exact hs | exact hs1 | exact hW | exact ⟨hd_, hs1, by decide⟩ | exact hrl | exact Nat.le_trans (refs_len hd_ hW hs) (by decide) | exact Nat.le_trans (dang_len _) (Nat.le_trans (refs_len hd_ hW hs) (by decide)) | exact Nat.le_trans (to_len _ _) (Nat.le_trans (refs_len hd_ hW hs) (by decide)) | exact (by simpa using (by assumption : (!decide (paths9 = ([] : List YPath))) = true)) | omega | exact (by simpa using (by assumption : (!far24.isNone) = true)) | exact ring_ns hr0 (by assumption) | exact of_decide_eq_false (by assumption) | exact List.mem_range.mp (by assumption) | (rw [List.length_range]; omega) /-40-/)))) (ev_minLN (ns := fars27) (ev_rd (i := 8) rfl) (by first | exact scQ | rfl | exact hs | exact hs1 | exact hW | exact ⟨hd_, hs1, by decide⟩ | exact hrl | exact Nat.le_trans (refs_len hd_ hW hs) (by decide) | exact Nat.le_trans (dang_len _) (Nat.le_trans (refs_len hd_ hW hs) (by decide)) | exact Nat.le_trans (to_len _ _) (Nat.le_trans (refs_len hd_ hW hs) (by decide)) | exact (by simpa using (by assumption : (!decide (paths9 = ([] : List YPath))) = true)) | omega | exact (by simpa using (by assumption : (!far24.isNone) = true)) | exact ring_ns hr0 (by assumption) | exact of_decide_eq_false (by assumption) | exact List.mem_range.mp (by assumption) | (rw [List.length_range]; omega) /-41-/)) (gNeX_nof gNe_nn)))) (by exact ring_ln hr0 hr1 (by assumption) /-42-/) (sg_skip ?_)
      show Sg [.fz ((eL eI) script), .ow (Wd ds ((i16 : Nat) : Int)), .fz (eN turn3), .fz (yBody body6), .rd ((eL yRef) refs8), .rd ((eL yPath) paths9), .any, .fz (yPath path15), .rd ((eL eN) fars27), .any, .any, .fz ((eO (eT yPath)) ring28), .any, .any, .any, .any] _ _ _
      refine sg_set (d := ((eL (e2 yPath yPath)) (refs8.map (fun (own31 : YRef) => (own31.1, own31.2.2))))) (ev_lcY (enc := yRef) (encB := (e2 yPath yPath)) (xs := refs8) (fe := (fun (own31 : YRef) => (own31.1, own31.2.2))) (ew_nam (d := ((eL yRef) refs8)) (ev_rd (i := 4) rfl) rfl) (by first | exact scQ | rfl | exact hs | exact hs1 | exact hW | exact ⟨hd_, hs1, by decide⟩ | exact hrl | exact Nat.le_trans (refs_len hd_ hW hs) (by decide) | exact Nat.le_trans (dang_len _) (Nat.le_trans (refs_len hd_ hW hs) (by decide)) | exact Nat.le_trans (to_len _ _) (Nat.le_trans (refs_len hd_ hW hs) (by decide)) | exact (by simpa using (by assumption : (!decide (paths9 = ([] : List YPath))) = true)) | omega | exact (by simpa using (by assumption : (!far24.isNone) = true)) | exact ring_ns hr0 (by assumption) | exact of_decide_eq_false (by assumption) | exact List.mem_range.mp (by assumption) | (rw [List.length_range]; omega) /-43-/) (fun own31 hx32 => ⟨_, (tg_t (tg_cons tg_n (tg_cons tg_n (tg_cons tg_n tg_nil)))), _, _, (ev_tup (ea_cons (da := (yPath own31.1)) (ev_fz (i := 9) rfl) (ea_cons (da := (yPath own31.2.2)) (ev_fz (i := 14) rfl) ea_nil))), leT⟩)) ?_
      refine sg_gen0 (fun links34 : (List (YPath × YPath)) => [.fz ((eL eI) script), .ow (Wd ds ((i16 : Nat) : Int)), .fz (eN turn3), .fz (yBody body6), .rd ((eL yRef) refs8), .rd ((eL yPath) paths9), .any, .fz (yPath path15), .rd ((eL eN) fars27), .any, .any, .fz ((eO (eT yPath)) ring28), .ow ((eL (e2 yPath yPath)) links34), .any, .any, .any]) (x := (refs8.map (fun (own31 : YRef) => (own31.1, own31.2.2)))) fun links34 hlinks34 => ?_
      refine sg_le (E1 := [.fz ((eL eI) script), .ow (Wd ds ((i16 : Nat) : Int)), .fz (eN turn3), .fz (yBody body6), .rd ((eL yRef) refs8), .rd ((eL yPath) paths9), .any, .fz (yPath path15), .rd ((eL eN) fars27), .any, .any, .fz ((eO (eT yPath)) ring28), .rd ((eL (e2 yPath yPath)) links34), .any, .any, .any]) leT ?_
      refine sg_last ?_
      refine sg_ifF (p := (!decide (((List.range ((ring28.getD []).length)).filter (fun (k35 : Nat) => (!decide (((ixP (ring28.getD []) k35 []), ((ring28.getD []).getD k35 [])) ∈ links34)))) = ([] : (List Nat))))) (tj_cmp (p := (!decide (((List.range ((ring28.getD []).length)).filter (fun (k35 : Nat) => (!decide (((ixP (ring28.getD []) k35 []), ((ring28.getD []).getD k35 [])) ∈ links34)))) = ([] : (List Nat))))) (da := ((eL eN) ((List.range ((ring28.getD []).length)).filter (fun (k35 : Nat) => (!decide (((ixP (ring28.getD []) k35 []), ((ring28.getD []).getD k35 [])) ∈ links34)))))) (db := ((eL eN) ([] : (List Nat)))) (Ev.eq (ev_lc (enc := eN) (encB := eN) (xs := (List.range ((ring28.getD []).length))) (p := (fun (k35 : Nat) => (!decide (((ixP (ring28.getD []) k35 []), ((ring28.getD []).getD k35 [])) ∈ links34)))) (fe := (fun (k35 : Nat) => k35)) (ew_rgN (n := (ring28.getD []).length) (ev_lenT (enc := yPath) (xs := (ring28.getD [])) (Ev.eq (ev_fz (i := 11) rfl) (eO_get [] (by first | exact scQ | rfl | exact hs | exact hs1 | exact hW | exact ⟨hd_, hs1, by decide⟩ | exact hrl | exact Nat.le_trans (refs_len hd_ hW hs) (by decide) | exact Nat.le_trans (dang_len _) (Nat.le_trans (refs_len hd_ hW hs) (by decide)) | exact Nat.le_trans (to_len _ _) (Nat.le_trans (refs_len hd_ hW hs) (by decide)) | exact (by simpa using (by assumption : (!decide (paths9 = ([] : List YPath))) = true)) | omega | exact (by simpa using (by assumption : (!far24.isNone) = true)) | exact ring_ns hr0 (by assumption) | exact of_decide_eq_false (by assumption) | exact List.mem_range.mp (by assumption) | (rw [List.length_range]; omega) /-44-/)))) (by first | exact scQ | rfl | exact hs | exact hs1 | exact hW | exact ⟨hd_, hs1, by decide⟩ | exact hrl | exact Nat.le_trans (refs_len hd_ hW hs) (by decide) | exact Nat.le_trans (dang_len _) (Nat.le_trans (refs_len hd_ hW hs) (by decide)) | exact Nat.le_trans (to_len _ _) (Nat.le_trans (refs_len hd_ hW hs) (by decide)) | exact (by simpa using (by assumption : (!decide (paths9 = ([] : List YPath))) = true)) | omega | exact (by simpa using (by assumption : (!far24.isNone) = true)) | exact ring_ns hr0 (by assumption) | exact of_decide_eq_false (by assumption) | exact List.mem_range.mp (by assumption) | (rw [List.length_range]; omega) /-45-/)) (by first | exact scQ | rfl | exact hs | exact hs1 | exact hW | exact ⟨hd_, hs1, by decide⟩ | exact hrl | exact Nat.le_trans (refs_len hd_ hW hs) (by decide) | exact Nat.le_trans (dang_len _) (Nat.le_trans (refs_len hd_ hW hs) (by decide)) | exact Nat.le_trans (to_len _ _) (Nat.le_trans (refs_len hd_ hW hs) (by decide)) | exact (by simpa using (by assumption : (!decide (paths9 = ([] : List YPath))) = true)) | omega | exact (by simpa using (by assumption : (!far24.isNone) = true)) | exact ring_ns hr0 (by assumption) | exact of_decide_eq_false (by assumption) | exact List.mem_range.mp (by assumption) | (rw [List.length_range]; omega) /-50-/) (fun k35 hx36 => ⟨_, tg_n, (tj_cmp (p := (!decide (((ixP (ring28.getD []) k35 []), ((ring28.getD []).getD k35 [])) ∈ links34))) (da := ((e2 yPath yPath) ((ixP (ring28.getD []) k35 []), ((ring28.getD []).getD k35 [])))) (db := ((eL (e2 yPath yPath)) links34)) (ev_tup (ea_cons (da := (yPath (ixP (ring28.getD []) k35 []))) (ev_ixTP [] (enc := yPath) (xs := (ring28.getD [])) (k := k35) (Ev.eq (ev_fz (i := 11) rfl) (eO_get [] (by first | exact scQ | rfl | exact hs | exact hs1 | exact hW | exact ⟨hd_, hs1, by decide⟩ | exact hrl | exact Nat.le_trans (refs_len hd_ hW hs) (by decide) | exact Nat.le_trans (dang_len _) (Nat.le_trans (refs_len hd_ hW hs) (by decide)) | exact Nat.le_trans (to_len _ _) (Nat.le_trans (refs_len hd_ hW hs) (by decide)) | exact (by simpa using (by assumption : (!decide (paths9 = ([] : List YPath))) = true)) | omega | exact (by simpa using (by assumption : (!far24.isNone) = true)) | exact ring_ns hr0 (by assumption) | exact of_decide_eq_false (by assumption) | exact List.mem_range.mp (by assumption) | (rw [List.length_range]; omega) /-46-/))) (ev_subI (x := ((k35 : Nat) : Int)) (y := ((1 : Nat) : Int)) (ev_fz (i := 15) rfl) ev_C) (by first | exact scQ | rfl | exact hs | exact hs1 | exact hW | exact ⟨hd_, hs1, by decide⟩ | exact hrl | exact Nat.le_trans (refs_len hd_ hW hs) (by decide) | exact Nat.le_trans (dang_len _) (Nat.le_trans (refs_len hd_ hW hs) (by decide)) | exact Nat.le_trans (to_len _ _) (Nat.le_trans (refs_len hd_ hW hs) (by decide)) | exact (by simpa using (by assumption : (!decide (paths9 = ([] : List YPath))) = true)) | omega | exact (by simpa using (by assumption : (!far24.isNone) = true)) | exact ring_ns hr0 (by assumption) | exact of_decide_eq_false (by assumption) | exact List.mem_range.mp (by assumption) | (rw [List.length_range]; omega) /-47-/)) (ea_cons (da := (yPath ((ring28.getD []).getD k35 []))) (ev_ixTN [] (enc := yPath) (xs := (ring28.getD [])) (p := k35) (Ev.eq (ev_fz (i := 11) rfl) (eO_get [] (by first | exact scQ | rfl | exact hs | exact hs1 | exact hW | exact ⟨hd_, hs1, by decide⟩ | exact hrl | exact Nat.le_trans (refs_len hd_ hW hs) (by decide) | exact Nat.le_trans (dang_len _) (Nat.le_trans (refs_len hd_ hW hs) (by decide)) | exact Nat.le_trans (to_len _ _) (Nat.le_trans (refs_len hd_ hW hs) (by decide)) | exact (by simpa using (by assumption : (!decide (paths9 = ([] : List YPath))) = true)) | omega | exact (by simpa using (by assumption : (!far24.isNone) = true)) | exact ring_ns hr0 (by assumption) | exact of_decide_eq_false (by assumption) | exact List.mem_range.mp (by assumption) | (rw [List.length_range]; omega) /-48-/))) (ev_fz (i := 15) rfl) (by first | exact scQ | rfl | exact hs | exact hs1 | exact hW | exact ⟨hd_, hs1, by decide⟩ | exact hrl | exact Nat.le_trans (refs_len hd_ hW hs) (by decide) | exact Nat.le_trans (dang_len _) (Nat.le_trans (refs_len hd_ hW hs) (by decide)) | exact Nat.le_trans (to_len _ _) (Nat.le_trans (refs_len hd_ hW hs) (by decide)) | exact (by simpa using (by assumption : (!decide (paths9 = ([] : List YPath))) = true)) | omega | exact (by simpa using (by assumption : (!far24.isNone) = true)) | exact ring_ns hr0 (by assumption) | exact of_decide_eq_false (by assumption) | exact List.mem_range.mp (by assumption) | (rw [List.length_range]; omega) /-49-/)) ea_nil))) (ev_rd (i := 12) rfl) (gNotIn_gl (gd_2 (gd_tl (gd_str (n := 0))) (gd_tl (gd_str (n := 0)))))), (fun _ => leT), fun hp37 => ⟨_, _, (ev_fz (i := 15) rfl), leT⟩⟩)) (map_id_e _ _)) (ev_lst ea_nil) (gNeX_nof (gNe_g (gd_list (gd_nat (n := 0)))))) (by rw [hlinks34]; exact ring_fin hr0 hr1 (by assumption) /-51-/) (sg_skip ?_)
      show Sg [.fz ((eL eI) script), .ow (Wd ds ((i16 : Nat) : Int)), .fz (eN turn3), .fz (yBody body6), .rd ((eL yRef) refs8), .rd ((eL yPath) paths9), .any, .fz (yPath path15), .rd ((eL eN) fars27), .any, .any, .fz ((eO (eT yPath)) ring28), .rd ((eL (e2 yPath yPath)) links34), .any, .any, .any] _ _ _
      exact sg_passX i16 (by trivial /-52-/) leT
  show Sg [.fz ((eL eI) script), .ow (Wd ds ((s1 : Nat) : Int)), .any, .any, .any, .any, .any, .any, .any, .any, .any, .any, .any, .any, .any, .any] _ _ _
  refine sg_last ?_
  exact sg_ret (v := true) ev_C leT roT
theorem law_ok : LawOk f_law := law_of law_tv
end Lawk21
open PySem PySem.W PyProof.Rows
set_option maxHeartbeats 0 in
theorem PySem.Challenge.cw_amendwarrant_k21_references_of_bodies_holds : PySem.Challenge.rw_amendwarrant_k21_references_of_bodies.Holds := by
  w_on; o_law; k_head; (case hw => w_witness2)
  k_fill
  refine L2.walk_of (l := PySem.Challenge.rw_amendwarrant_k21_references_of_bodies) (n := 63) (k := 8) (x := "script") (CX := fun _ => L2.CX0) (sp := fun _ => DL.spL) rfl (by decide) rfl ⟨rfl, by decide, by decide⟩ (fun w h Y => PySem.W.kIn_of Y) ?F ?hsp (fun _ _ _ _ _ h => h)
  case hsp => exact fun w H a ns hl _ hS => DL.spL_of hS hl (by kernel_rfl)
  case F =>
    intro w mg fa h KX G hmg
    refine DL.law_end Lawk21.law_ok ?_
    refine' Lawk21.all_mk KX G hmg ?a1 ?l1 ?c1 ?k1 ?a2 ?l2 ?c2 ?k2 ?a3 ?l3 ?c3 ?k3 ?a4 ?l4 ?c4 ?k4 ?a5 ?l5 ?c5 ?k5 ?a6 ?l6 ?c6 ?k6 ?a7 ?l7 ?c7 ?k7 ?a8 ?l8 ?c8 ?k8 ?a9 ?l9 ?c9 ?k9 ?a10 ?l10 ?c10 ?k10 ?a11 ?l11 ?c11 ?k11 ?a12 ?l12 ?c12 ?k12 ?a13 ?l13 ?c13 ?k13 ?a14 ?l14 ?c14 ?k14 ?a15 ?l15 ?c15 ?k15 ?a16 ?l16 ?c16 ?k16 ?a17 ?l17 ?c17 ?k17 ?a18 ?l18 ?c18 ?k18 ?a19 ?l19 ?c19 ?k19 ?a20 ?l20 ?c20 ?k20 ?a21 ?l21 ?c21 ?k21 ?a22 ?l22 ?c22 ?k22 ?a23 ?l23 ?c23 ?k23 ?a24 ?l24 ?c24 ?k24 ?z1 ?z2 ?z3 ?z4 ?z5 ?z6 ?z7 ?z8 ?z9 ?z10 ?aq_DIGITS ?rq_DIGITS ?aq_LETTERS ?rq_LETTERS
    (case a1 => k_is); (case l1 => k_is); (case c1 => k_is); (case k1 => k_is); (case a2 => k_is); (case l2 => k_is); (case c2 => k_is); (case k2 => k_is); (case a3 => k_is); (case l3 => k_is); (case c3 => k_is); (case k3 => k_is); (case a4 => k_is); (case l4 => k_is); (case c4 => k_is); (case k4 => k_is); (case a5 => k_is); (case l5 => k_is); (case c5 => k_is); (case k5 => k_is); (case a6 => k_is); (case l6 => k_is); (case c6 => k_is); (case k6 => k_is); (case a7 => k_is); (case l7 => k_is); (case c7 => k_is); (case k7 => k_is); (case a8 => k_is); (case l8 => k_is); (case c8 => k_is); (case k8 => k_is); (case a9 => k_is); (case l9 => k_is); (case c9 => k_is); (case k9 => k_is); (case a10 => k_is); (case l10 => k_is); (case c10 => k_is); (case k10 => k_is); (case a11 => k_is); (case l11 => k_is); (case c11 => k_is); (case k11 => k_is); (case a12 => k_is); (case l12 => k_is); (case c12 => k_is); (case k12 => k_is); (case a13 => k_is); (case l13 => k_is); (case c13 => k_is); (case k13 => k_is); (case a14 => k_is); (case l14 => k_is); (case c14 => k_is); (case k14 => k_is); (case a15 => k_is); (case l15 => k_is); (case c15 => k_is); (case k15 => k_is); (case a16 => k_is); (case l16 => k_is); (case c16 => k_is); (case k16 => k_is); (case a17 => k_is); (case l17 => k_is); (case c17 => k_is); (case k17 => k_is); (case a18 => k_is); (case l18 => k_is); (case c18 => k_is); (case k18 => k_is); (case a19 => k_is); (case l19 => k_is); (case c19 => k_is); (case k19 => k_is); (case a20 => k_is); (case l20 => k_is); (case c20 => k_is); (case k20 => k_is); (case a21 => k_is); (case l21 => k_is); (case c21 => k_is); (case k21 => k_is); (case a22 => k_is); (case l22 => k_is); (case c22 => k_is); (case k22 => k_is); (case a23 => k_is); (case l23 => k_is); (case c23 => k_is); (case k23 => k_is); (case a24 => k_is); (case l24 => k_is); (case c24 => k_is); (case k24 => k_is); (case z1 => k_is); (case z2 => k_is); (case z3 => k_is); (case z4 => k_is); (case z5 => k_is); (case z6 => k_is); (case z7 => k_is); (case z8 => k_is); (case z9 => k_is); (case z10 => k_is); (case aq_DIGITS => k_is); (case aq_LETTERS => k_is); (case rq_DIGITS => exact ⟨_, rfl⟩); (case rq_LETTERS => exact ⟨_, rfl⟩)

import PyProof.Rows.All
import Wide.All
import OpenK.AllK
import Wide.FinOn
import PySem.Challenge.RW_farwheels_k15_whole_known_depths_by_two
import HandS.ForMost
import HandS.Deep
import HandS.Conv
import HandS.Zip
import HandS.Style
import HandS.IsInst
import HandS.TupAny
import HandS.TupMul
import HandS.Wide
import HandS.Small
import KE.SortData
import KE.DataMinMax
import KE.DataAny
import KE.KDictKeyed
import KE.GoesDict
import KE.KDictDisplayH
import KE.DataEq
set_option Elab.async false
set_option linter.all false
set_option maxRecDepth 100000
set_option maxHeartbeats 4000000
namespace EV
open PySem PySem.Spec PyProof.Rows L2

/-! ### data, slots -/
abbrev Fb := Addr → Prop
abbrev Fb.add (A : Fb) (a : Addr) : Fb := fun x => A x ∨ x = a
inductive Slot where
  | un
  | sh (d : PyData)
  | ow (d : PyData)
abbrev Rho := List Slot
def keyD : Key → PyData
  | .inl i => .int i
  | .inr x => .str x
mutual
def nkey : PyData → Option NestedKey
  | .none => some .none
  | .bool b => some (.num (if b = true then 1 else 0))
  | .int i => some (.num i)
  | .str x => some (.text x)
  | .tuple ds => (nkeys ds).map .tup
  | .list _ => none
  | .dict _ => none
def nkeys : List PyData → Option (List NestedKey)
  | [] => some []
  | d :: ds => (nkey d).bind fun k => (nkeys ds).map (k :: ·)
end
def KTup (K : PySem.W.Frag) (a : Addr) (xs : List V) : Prop :=
  ∃ (o : Obj) (its : Array Value) (n : Nat), K.lookup a = some o ∧ o.cls = .type "tuple" ∧ o.data = .seq its n ∧ its.size ≤ sizeLine ∧ Vals xs its.toList
def KLst (K : PySem.W.Frag) (a : Addr) (xs : List V) : Prop :=
  ∃ (o : Obj) (its : Array Value) (n : Nat), K.lookup a = some o ∧ o.cls = .type "list" ∧ o.dict = none ∧ o.data = .seq its n ∧ its.size ≤ sizeLine ∧ Vals xs its.toList
def ObjIs (a : Addr) (o : Obj) : HO := .ext fun h => h.get? a = some o
/-- a dict's object with keys that are tuples: its entries -/
def TD (P : Program) (w : World) (a : Addr) (o : Obj) (xs : List (NestedKey × Addr × Value)) : Prop :=
  (a == sysModules) = false ∧ o.ExactDict ∧ (∃ es ep, o.data = .dict es ep ∧ es.toList = xs.map (entryOfKey (nestedKind P w))) ∧ (xs.map (·.1)).Nodup ∧ xs.length ≤ sizeLine
/-- .. with keys that are ints and texts -/
def KD (P : Program) (w : World) (a : Addr) (o : Obj) (vs : List (Key × Value)) : Prop :=
  (a == sysModules) = false ∧ o.ExactDict ∧ (∃ es ep, o.data = .dict es ep ∧ KeysOf (mixKind P w) es ∧ Pairs (mixKind P w) es.toList vs) ∧ (vs.map (·.1)).Nodup ∧ vs.length ≤ sizeLine

section
variable (P : Program) (w : World) (K : PySem.W.Frag)
mutual
/-- the value v of the heap H denotes the data d; no object of F within -/
inductive Den (H : Hp) (F : Fb) : V → PyData → Prop
  | non : Den H F .non .none
  | bl (b : Bool) : Den H F (.bl b) (.bool b)
  | int (i : Int) : Den H F (.int i) (.int i)
  | str (x : Str) : Den H F (.str x) (.str x)
  | lst {a : Addr} {xs : List V} {ds : List PyData} : ¬ F a → Rd H a (.lst xs) → DenAll H F xs ds → Den H F (.ref a) (.list ds)
  | tup {a : Addr} {xs : List V} {ds : List PyData} : ¬ F a → Rd H a (.tup xs) → DenAll H F xs ds → Den H F (.ref a) (.tuple ds)
  | ktup {a : Addr} {xs : List V} {ds : List PyData} : KTup K a xs → DenAll H F xs ds → Den H F (.ref a) (.tuple ds)
  | klst {a : Addr} {xs : List V} {ds : List PyData} : KLst K a xs → DenAll H F xs ds → Den H F (.ref a) (.list ds)
  | dk {a : Addr} {o : Obj} {kvs : List (Key × Value)} {ds : List (PyData × PyData)} : ¬ F a → H a = some (ObjIs a o) → KD P w a o kvs → DenKV H F kvs ds → Den H F (.ref a) (.dict ds)
  | dt {a : Addr} {o : Obj} {xs : List (NestedKey × Addr × Value)} {ds : List (PyData × PyData)} : ¬ F a → H a = some (ObjIs a o) → TD P w a o xs → DenKT H F xs ds → Den H F (.ref a) (.dict ds)
inductive DenAll (H : Hp) (F : Fb) : List V → List PyData → Prop
  | nil : DenAll H F [] []
  | cons {v : V} {d : PyData} {vs : List V} {ds : List PyData} : Den H F v d → DenAll H F vs ds → DenAll H F (v :: vs) (d :: ds)
inductive DenKV (H : Hp) (F : Fb) : List (Key × Value) → List (PyData × PyData) → Prop
  | nil : DenKV H F [] []
  | cons {k : Key} {u : Value} {v : V} {d : PyData} {kvs : List (Key × Value)} {ds : List (PyData × PyData)} : RelV v u → Den H F v d → DenKV H F kvs ds → DenKV H F ((k, u) :: kvs) ((keyD k, d) :: ds)
inductive DenKT (H : Hp) (F : Fb) : List (NestedKey × Addr × Value) → List (PyData × PyData) → Prop
  | nil : DenKT H F [] []
  | cons {k : NestedKey} {a : Addr} {u : Value} {v : V} {kd d : PyData} {xs : List (NestedKey × Addr × Value)} {ds : List (PyData × PyData)} :
      Den H F (.ref a) kd → nkey kd = some k → k.depth ≤ 8 → RelV v u → Den H F v d → DenKT H F xs ds → DenKT H F ((k, a, u) :: xs) ((kd, d) :: ds)
end
/-- a list or a dict at a, its inner parts off F -/
inductive Own (H : Hp) (F : Fb) : Addr → PyData → Prop
  | lst {a : Addr} {xs : List V} {ds : List PyData} : H a = some (.lst xs) → DenAll P w K H F xs ds → Own H F a (.list ds)
  | dk {a : Addr} {o : Obj} {kvs : List (Key × Value)} {ds : List (PyData × PyData)} : H a = some (ObjIs a o) → KD P w a o kvs → DenKV P w K H F kvs ds → Own H F a (.dict ds)
  | dt {a : Addr} {o : Obj} {xs : List (NestedKey × Addr × Value)} {ds : List (PyData × PyData)} : H a = some (ObjIs a o) → TD P w a o xs → DenKT P w K H F xs ds → Own H F a (.dict ds)
/-- to be read: the root may lie in F -/
inductive DenX (H : Hp) (F : Fb) : V → PyData → Prop
  | of {v : V} {d : PyData} : Den P w K H F v d → DenX H F v d
  | ow {a : Addr} {d : PyData} : Own P w K H F a d → DenX H F (.ref a) d
end

section
variable {P : Program} {w : World} {K : PySem.W.Frag} {H H' : Hp} {F F' : Fb}
mutual
theorem Den.step (k : ∀ a o, H a = some o → ¬ F a → H' a = some o) (f : ∀ a o, H a = some o → ¬ F a → ¬ F' a) : ∀ {v : V} {d : PyData}, Den P w K H F v d → Den P w K H' F' v d
  | _, _, .non => .non
  | _, _, .bl b => .bl b
  | _, _, .int i => .int i
  | _, _, .str x => .str x
  | _, _, .lst n r t => .lst (r.elim (fun q => f _ _ q n) fun ⟨_, q⟩ => f _ _ q n) (r.elim (fun q => .inl (k _ _ q n)) fun ⟨o, q⟩ => .inr ⟨o, k _ _ q n⟩) (DenAll.step k f t)
  | _, _, .tup n r t => .tup (r.elim (fun q => f _ _ q n) fun ⟨_, q⟩ => f _ _ q n) (r.elim (fun q => .inl (k _ _ q n)) fun ⟨o, q⟩ => .inr ⟨o, k _ _ q n⟩) (DenAll.step k f t)
  | _, _, .ktup q t => .ktup q (DenAll.step k f t)
  | _, _, .klst q t => .klst q (DenAll.step k f t)
  | _, _, .dk n q td t => .dk (f _ _ q n) (k _ _ q n) td (DenKV.step k f t)
  | _, _, .dt n q td t => .dt (f _ _ q n) (k _ _ q n) td (DenKT.step k f t)
theorem DenAll.step (k : ∀ a o, H a = some o → ¬ F a → H' a = some o) (f : ∀ a o, H a = some o → ¬ F a → ¬ F' a) : ∀ {vs : List V} {ds : List PyData}, DenAll P w K H F vs ds → DenAll P w K H' F' vs ds
  | _, _, .nil => .nil
  | _, _, .cons h t => .cons (Den.step k f h) (DenAll.step k f t)
theorem DenKV.step (k : ∀ a o, H a = some o → ¬ F a → H' a = some o) (f : ∀ a o, H a = some o → ¬ F a → ¬ F' a) : ∀ {vs : List (Key × Value)} {ds : List (PyData × PyData)}, DenKV P w K H F vs ds → DenKV P w K H' F' vs ds
  | _, _, .nil => .nil
  | _, _, .cons r h t => .cons r (Den.step k f h) (DenKV.step k f t)
theorem DenKT.step (k : ∀ a o, H a = some o → ¬ F a → H' a = some o) (f : ∀ a o, H a = some o → ¬ F a → ¬ F' a) : ∀ {vs : List (NestedKey × Addr × Value)} {ds : List (PyData × PyData)}, DenKT P w K H F vs ds → DenKT P w K H' F' vs ds
  | _, _, .nil => .nil
  | _, _, .cons h e l r h2 t => .cons (Den.step k f h) e l r (Den.step k f h2) (DenKT.step k f t)
end
theorem Own.step (k : ∀ a o, H a = some o → ¬ F a → H' a = some o) (f : ∀ a o, H a = some o → ¬ F a → ¬ F' a) {a : Addr} {d : PyData} (h : Own P w K H F a d) (ha : ∀ o, H a = some o → H' a = some o) : Own P w K H' F' a d := by
  cases h with
  | lst q t => exact .lst (ha _ q) (DenAll.step k f t)
  | dk q td t => exact .dk (ha _ q) td (DenKV.step k f t)
  | dt q td t => exact .dt (ha _ q) td (DenKT.step k f t)
theorem Own.there {a : Addr} {d : PyData} (h : Own P w K H F a d) : ∃ o, H a = some o := by
  cases h with
  | lst q t => exact ⟨_, q⟩
  | dk q td t => exact ⟨_, q⟩
  | dt q td t => exact ⟨_, q⟩
/-- an owned object that is off F' is a value -/
theorem Own.den {a : Addr} {d : PyData} (h : Own P w K H F a d) (n : ¬ F a) : Den P w K H F (.ref a) d := by
  cases h with
  | lst q t => exact .lst n (.inl q) t
  | dk q td t => exact .dk n q td t
  | dt q td t => exact .dt n q td t
abbrev Ext (H H' : Hp) : Prop := ∀ a o, H a = some o → H' a = some o
theorem ext_new {p : Addr} {o : HO} (h : H p = none) : Ext H (upd H p o) := fun a u e => by
  rw [upd_ne (ne_of_none e h)]
  exact e
theorem Den.ext (e : Ext H H') {v : V} {d : PyData} (h : Den P w K H F v d) : Den P w K H' F v d := h.step (fun a o q _ => e a o q) (fun _ _ _ n => n)
theorem DenAll.ext (e : Ext H H') {v : List V} {d : List PyData} (h : DenAll P w K H F v d) : DenAll P w K H' F v d := h.step (fun a o q _ => e a o q) (fun _ _ _ n => n)
theorem DenKV.ext (e : Ext H H') {v : List (Key × Value)} {d : List (PyData × PyData)} (h : DenKV P w K H F v d) : DenKV P w K H' F v d := h.step (fun a o q _ => e a o q) (fun _ _ _ n => n)
theorem DenX.ext (e : Ext H H') {v : V} {d : PyData} (h : DenX P w K H F v d) : DenX P w K H' F v d := by
  cases h with
  | of h => exact .of (h.ext e)
  | ow h => exact .ow (h.step (fun a o q _ => e a o q) (fun _ _ _ n => n) fun o q => e _ o q)
theorem Den.mono (f : ∀ a, F' a → F a) {v : V} {d : PyData} (h : Den P w K H F v d) : Den P w K H F' v d := h.step (fun _ _ q _ => q) (fun a _ _ n z => n (f a z))
theorem DenAll.mono (f : ∀ a, F' a → F a) {v : List V} {d : List PyData} (h : DenAll P w K H F v d) : DenAll P w K H F' v d := h.step (fun _ _ q _ => q) (fun a _ _ n z => n (f a z))
theorem DenAll.length : ∀ {vs : List V} {ds : List PyData}, DenAll P w K H F vs ds → vs.length = ds.length
  | _, _, .nil => rfl
  | _, _, .cons _ t => congrArg (· + 1) (DenAll.length t)
theorem DenAll.get : ∀ {vs : List V} {ds : List PyData} {i : Nat} {d : PyData}, DenAll P w K H F vs ds → ds[i]? = some d → ∃ v, vs[i]? = some v ∧ Den P w K H F v d
  | _, _, _, _, .nil, h => by simp at h
  | _, _, 0, _, .cons h _, e => by
    simp only [List.getElem?_cons_zero, Option.some.injEq] at e
    subst e
    exact ⟨_, rfl, h⟩
  | _, _, i + 1, _, .cons _ t, e => by
    simp only [List.getElem?_cons_succ] at e
    obtain ⟨v, h1, h2⟩ := DenAll.get t e
    exact ⟨v, by simpa using h1, h2⟩
theorem DenAll.append : ∀ {vs ws : List V} {ds es : List PyData}, DenAll P w K H F vs ds → DenAll P w K H F ws es → DenAll P w K H F (vs ++ ws) (ds ++ es)
  | _, _, _, _, .nil, t => t
  | _, _, _, _, .cons h r, t => .cons h (DenAll.append r t)
theorem DenAll.take : ∀ {vs : List V} {ds : List PyData} (n : Nat), DenAll P w K H F vs ds → DenAll P w K H F (vs.take n) (ds.take n)
  | _, _, 0, _ => .nil
  | _, _, _ + 1, .nil => .nil
  | _, _, n + 1, .cons h r => .cons h (DenAll.take n r)
theorem DenAll.drop : ∀ {vs : List V} {ds : List PyData} (n : Nat), DenAll P w K H F vs ds → DenAll P w K H F (vs.drop n) (ds.drop n)
  | _, _, 0, r => r
  | _, _, _ + 1, .nil => .nil
  | _, _, n + 1, .cons _ r => DenAll.drop n r
theorem DenAll.set {v : V} {d : PyData} (h : Den P w K H F v d) : ∀ {vs : List V} {ds : List PyData} (i : Nat), DenAll P w K H F vs ds → DenAll P w K H F (vs.set i v) (ds.set i d)
  | _, _, _, .nil => .nil
  | _, _, 0, .cons _ r => .cons h r
  | _, _, i + 1, .cons q r => .cons q (DenAll.set h i r)
theorem DenAll.eraseIdx : ∀ {vs : List V} {ds : List PyData} (i : Nat), DenAll P w K H F vs ds → DenAll P w K H F (vs.eraseIdx i) (ds.eraseIdx i)
  | _, _, _, .nil => .nil
  | _, _, 0, .cons _ r => r
  | _, _, i + 1, .cons q r => .cons q (DenAll.eraseIdx i r)
theorem DenAll.reverse {vs : List V} {ds : List PyData} (h : DenAll P w K H F vs ds) : DenAll P w K H F vs.reverse ds.reverse := by
  induction vs generalizing ds with
  | nil => cases h; exact .nil
  | cons v vs ih =>
    cases h with
    | cons h t =>
      rw [List.reverse_cons, List.reverse_cons]
      exact (ih t).append (.cons h .nil)
theorem DenAll.rep {vs : List V} {ds : List PyData} (h : DenAll P w K H F vs ds) : ∀ n : Nat, DenAll P w K H F (List.replicate n vs).flatten (List.replicate n ds).flatten
  | 0 => .nil
  | n + 1 => by
    rw [List.replicate_succ, List.replicate_succ, List.flatten_cons, List.flatten_cons]
    exact h.append (DenAll.rep h n)
theorem DenX.all {v : V} {ds : List PyData} (h : DenX P w K H F v (.list ds)) : ∃ a xs, v = .ref a ∧ SqL K H a xs ∧ DenAll P w K H F xs ds := by
  cases h with
  | of h =>
    cases h with
    | lst _ r t => exact ⟨_, _, rfl, .inl r, t⟩
    | klst q t => exact ⟨_, _, rfl, .inr q, t⟩
  | ow h =>
    cases h with
    | lst q t => exact ⟨_, _, rfl, .inl (.of q), t⟩
theorem DenX.tupl {v : V} {ds : List PyData} (h : DenX P w K H F v (.tuple ds)) : ∃ a xs, v = .ref a ∧ SqT K H a xs ∧ DenAll P w K H F xs ds := by
  cases h with
  | of h =>
    cases h with
    | tup _ r t => exact ⟨_, _, rfl, .inl r, t⟩
    | ktup q t => exact ⟨_, _, rfl, .inr q, t⟩
  | ow h => cases h
theorem DenX.int {v : V} {i : Int} (h : DenX P w K H F v (.int i)) : v = .int i := by
  cases h with
  | of h => cases h; rfl
  | ow h => cases h
theorem DenX.str {v : V} {i : Str} (h : DenX P w K H F v (.str i)) : v = .str i := by
  cases h with
  | of h => cases h; rfl
  | ow h => cases h
theorem DenX.bool {v : V} {i : Bool} (h : DenX P w K H F v (.bool i)) : v = .bl i := by
  cases h with
  | of h => cases h; rfl
  | ow h => cases h
theorem DenX.none {v : V} (h : DenX P w K H F v .none) : v = .non := by
  cases h with
  | of h => cases h; rfl
  | ow h => cases h
theorem Den.x {v : V} {d : PyData} (h : Den P w K H F v d) : DenX P w K H F v d := .of h
end

/-! ### a state -/
def Rt (σ : L2.St) (ρ : Rho) : Fb := fun a => ∃ (i : Nat) (d : PyData), ρ[i]? = some (.ow d) ∧ σ[i]? = some (some (.ref a))
def FbS (A : Fb) (σ : L2.St) (ρ : Rho) : Fb := fun a => A a ∨ Rt σ ρ a
structure RS (P : Program) (w : World) (K : PySem.W.Frag) (A : Fb) (σ : L2.St) (H : Hp) (ρ : Rho) : Prop where
  len : σ.length = ρ.length
  trk : ∀ a, A a → ∃ o, H a = some o
  sh : ∀ (i : Nat) (d : PyData), ρ[i]? = some (.sh d) → ∃ v, σ[i]? = some (some v) ∧ Den P w K H (FbS A σ ρ) v d
  ow : ∀ (i : Nat) (d : PyData), ρ[i]? = some (.ow d) → ∃ a, σ[i]? = some (some (.ref a)) ∧ ¬ A a ∧ Own P w K H (FbS A σ ρ) a d
  inj : ∀ (i j : Nat) (d e : PyData) (a : Addr), ρ[i]? = some (.ow d) → ρ[j]? = some (.ow e) → σ[i]? = some (some (.ref a)) → σ[j]? = some (some (.ref a)) → i = j
structure Stp (r r' : Fb) (H H' : Hp) : Prop where
  keep : ∀ a o, H a = some o → ¬ r a → H' a = some o
  there : ∀ a o, H a = some o → ∃ o', H' a = some o'
  roots : ∀ a, r' a → r a ∨ H a = none
theorem Stp.refl (r : Fb) (H : Hp) : Stp r r H H := ⟨fun _ _ h _ => h, fun _ o h => ⟨o, h⟩, fun _ h => .inl h⟩
theorem Stp.trans {r r1 r2 : Fb} {H H1 H2 : Hp} (a : Stp r r1 H H1) (b : Stp r1 r2 H1 H2) : Stp r r2 H H2 where
  keep := fun x o h n => b.keep x o (a.keep x o h n) fun z => (a.roots x z).elim n fun q => by rw [h] at q; cases q
  there := fun x o h => let ⟨o1, h1⟩ := a.there x o h; b.there x o1 h1
  roots := fun x h => (b.roots x h).elim (fun z => a.roots x z) fun q => .inr (by
    cases e : H x with
    | none => rfl
    | some o =>
      obtain ⟨o1, h1⟩ := a.there x o e
      rw [h1] at q
      cases q)
theorem Stp.ext {r : Fb} {H H' : Hp} (e : Ext H H') : Stp r r H H' := ⟨fun a o h _ => e a o h, fun a o h => ⟨o, e a o h⟩, fun _ h => .inl h⟩

/-- behind an expression -/
structure Pe (σ : L2.St) (H : Hp) (ρ : Rho) (H' : Hp) (ρ' : Rho) : Prop where
  keep : ∀ a o, H a = some o → ¬ Rt σ ρ a → H' a = some o
  there : ∀ a o, H a = some o → ∃ o', H' a = some o'
  sub : ∀ a, Rt σ ρ' a → Rt σ ρ a
theorem Pe.stp {σ : L2.St} {H H' : Hp} {ρ ρ' : Rho} (p : Pe σ H ρ H' ρ') : Stp (Rt σ ρ) (Rt σ ρ') H H' := ⟨p.keep, p.there, fun a h => .inl (p.sub a h)⟩
theorem Pe.refl {σ : L2.St} {H : Hp} {ρ : Rho} : Pe σ H ρ H ρ := ⟨fun _ _ h _ => h, fun _ o h => ⟨o, h⟩, fun _ h => h⟩
theorem Pe.ext {σ : L2.St} {H H' : Hp} {ρ : Rho} (e : Ext H H') : Pe σ H ρ H' ρ := ⟨fun a o h _ => e a o h, fun a o h => ⟨o, e a o h⟩, fun _ h => h⟩
theorem Pe.trans {σ : L2.St} {H H1 H2 : Hp} {ρ ρ1 ρ2 : Rho} (a : Pe σ H ρ H1 ρ1) (b : Pe σ H1 ρ1 H2 ρ2) : Pe σ H ρ H2 ρ2 where
  keep := fun x o h n => b.keep x o (a.keep x o h n) fun z => n (a.sub x z)
  there := fun x o h => let ⟨o1, h1⟩ := a.there x o h; b.there x o1 h1
  sub := fun x h => a.sub x (b.sub x h)

section
variable {P : Program} {w : World} {K : PySem.W.Frag} {A : Fb} {σ σ' : L2.St} {H H' : Hp} {ρ ρ' : Rho}
theorem RS.ftrk (R : RS P w K A σ H ρ) : ∀ a, FbS A σ ρ a → ∃ o, H a = some o := fun a h => h.elim (R.trk a) fun ⟨i, d, h1, h2⟩ => by
  obtain ⟨b, e1, _, ob⟩ := R.ow i d h1
  rw [h2] at e1
  cases e1
  exact ob.there
theorem RS.den {σ' : L2.St} (R : RS P w K A σ H ρ) (st : Stp (Rt σ ρ) (Rt σ' ρ') H H') {v : V} {d : PyData} (h : Den P w K H (FbS A σ ρ) v d) : Den P w K H' (FbS A σ' ρ') v d :=
  h.step (fun a o q n => st.keep a o q fun z => n (.inr z)) fun a o q n z => z.elim (fun z => n (.inl z)) fun z => (st.roots a z).elim (fun z => n (.inr z)) fun e => by rw [q] at e; cases e
theorem RS.denAll {σ' : L2.St} (R : RS P w K A σ H ρ) (st : Stp (Rt σ ρ) (Rt σ' ρ') H H') {v : List V} {d : List PyData} (h : DenAll P w K H (FbS A σ ρ) v d) : DenAll P w K H' (FbS A σ' ρ') v d :=
  h.step (fun a o q n => st.keep a o q fun z => n (.inr z)) fun a o q n z => z.elim (fun z => n (.inl z)) fun z => (st.roots a z).elim (fun z => n (.inr z)) fun e => by rw [q] at e; cases e
theorem RS.ext (R : RS P w K A σ H ρ) (e : Ext H H') : RS P w K A σ H' ρ where
  len := R.len
  trk := fun a h => let ⟨o, q⟩ := R.trk a h; ⟨o, e a o q⟩
  sh := fun i d h => let ⟨v, h1, h2⟩ := R.sh i d h; ⟨v, h1, h2.ext e⟩
  ow := fun i d h => let ⟨a, h1, h2, h3⟩ := R.ow i d h; ⟨a, h1, h2, h3.step (fun b o q _ => e b o q) (fun _ _ _ n => n) fun o q => e _ o q⟩
  inj := R.inj
end

/-! ### what a reading comes to -/
abbrev EF := Rho → Option (PyData × Rho)
abbrev BF := Rho → Option (Bool × Rho)
abbrev LF := Rho → Option (List PyData × Rho)
inductive Fl where
  | nx | rt (d : PyData) | bk | ct
abbrev SF := Rho → Option (Fl × Rho)
section
variable (P : Program) (w : World) (K : PySem.W.Frag)
def EvR (t : TE) (f : EF) : Prop := ∀ (A : Fb) (σ : L2.St) (H : Hp) (ρ : Rho) (d : PyData) (ρ' : Rho) (Q : VK), RS P w K A σ H ρ → f ρ = some (d, ρ') →
  (∀ v H', RS P w K A σ H' ρ' → Pe σ H ρ H' ρ' → Den P w K H' (FbS A σ ρ') v d → Q v H') → t σ H Q
def ExR (t : TE) (f : EF) : Prop := ∀ (A : Fb) (σ : L2.St) (H : Hp) (ρ : Rho) (d : PyData) (ρ' : Rho) (Q : VK), RS P w K A σ H ρ → f ρ = some (d, ρ') →
  (∀ v H', RS P w K A σ H' ρ' → Pe σ H ρ H' ρ' → DenX P w K H' (FbS A σ ρ') v d → Q v H') → t σ H Q
/-- .. a new object -/
def EnR (t : TE) (f : EF) : Prop := ∀ (A : Fb) (σ : L2.St) (H : Hp) (ρ : Rho) (d : PyData) (ρ' : Rho) (Q : VK), RS P w K A σ H ρ → f ρ = some (d, ρ') →
  (∀ a H', RS P w K (A.add a) σ H' ρ' → Pe σ H ρ H' ρ' → H a = none → Own P w K H' (FbS (A.add a) σ ρ') a d → Q (.ref a) H') → t σ H Q
def TvR (t : TT) (f : BF) : Prop := ∀ (A : Fb) (σ : L2.St) (H : Hp) (ρ : Rho) (d : Bool) (ρ' : Rho) (Q : Bool → Hp → Prop), RS P w K A σ H ρ → f ρ = some (d, ρ') →
  (∀ H', RS P w K A σ H' ρ' → Pe σ H ρ H' ρ' → Q d H') → t σ H Q
def AvR (t : TA) (f : LF) : Prop := ∀ (A : Fb) (σ : L2.St) (H : Hp) (ρ : Rho) (d : List PyData) (ρ' : Rho) (Q : List V → Hp → Prop), RS P w K A σ H ρ → f ρ = some (d, ρ') →
  (∀ v H', RS P w K A σ H' ρ' → Pe σ H ρ H' ρ' → DenAll P w K H' (FbS A σ ρ') v d → Q v H') → t σ H Q
/-- the slots of J stand -/
def Agr (J : List Nat) (σ σ' : L2.St) : Prop := ∀ j ∈ J, σ'[j]? = σ[j]?
def PostS (A : Fb) (J : List Nat) (σ : L2.St) (H : Hp) (ρ : Rho) (ρ' : Rho) (D : Ends) : Fl → Prop
  | .nx => ∀ σ' H', RS P w K A σ' H' ρ' → Stp (Rt σ ρ) (Rt σ' ρ') H H' → Agr J σ σ' → D.nx σ' H'
  | .bk => ∀ σ' H', RS P w K A σ' H' ρ' → Stp (Rt σ ρ) (Rt σ' ρ') H H' → Agr J σ σ' → D.bk σ' H'
  | .ct => ∀ σ' H', RS P w K A σ' H' ρ' → Stp (Rt σ ρ) (Rt σ' ρ') H H' → Agr J σ σ' → D.ct σ' H'
  | .rt d => ∀ σ' v H', RS P w K A σ' H' ρ' → Stp (Rt σ ρ) (Rt σ' ρ') H H' → Agr J σ σ' → Den P w K H' (FbS A σ' ρ') v d → D.rt v H'
def SvR (J : List Nat) (t : TS) (f : SF) : Prop := ∀ (A : Fb) (σ : L2.St) (H : Hp) (ρ : Rho) (fl : Fl) (ρ' : Rho) (D : Ends), RS P w K A σ H ρ → f ρ = some (fl, ρ') →
  PostS P w K A J σ H ρ ρ' D fl → t D σ H
end
def EV (X : Cx) (e : Expr) (f : EF) : Prop := ∃ t, PE X e t ∧ EvR X.prog X.w X.K t f
def EX (X : Cx) (e : Expr) (f : EF) : Prop := ∃ t, PE X e t ∧ ExR X.prog X.w X.K t f
def EN (X : Cx) (e : Expr) (f : EF) : Prop := ∃ t, PE X e t ∧ EnR X.prog X.w X.K t f
def TV (X : Cx) (e : Expr) (f : BF) : Prop := ∃ t, PT X e t ∧ TvR X.prog X.w X.K t f
def TW (X : Cx) (e : Expr) (f : BF) : Prop := ∃ t, PW X e t ∧ TvR X.prog X.w X.K t f
def AV (X : Cx) (es : List Expr) (f : LF) : Prop := ∃ t, PA X es t ∧ AvR X.prog X.w X.K t f
def SV (X : Cx) (J : List Nat) (st : Stmt) (f : SF) : Prop := ∃ t, PS X st t ∧ SvR X.prog X.w X.K J t f
def SVs (X : Cx) (J : List Nat) (st : List Stmt) (f : SF) : Prop := ∃ t, PSs X st t ∧ SvR X.prog X.w X.K J t f
section
variable {P : Program} {w : World} {K : PySem.W.Frag} {t : TE} {f : EF}
theorem EvR.x (h : EvR P w K t f) : ExR P w K t f := fun A σ H ρ d ρ' Q R e k => h A σ H ρ d ρ' Q R e fun v H' R' st dn => k v H' R' st dn.x
end
theorem EV.x {X : Cx} {e : Expr} {f : EF} (h : EV X e f) : EX X e f := let ⟨t, h1, h2⟩ := h; ⟨t, h1, h2.x⟩
end EV
namespace EV
open PySem PySem.Spec PyProof.Rows L2

/-! ### the state under stores -/
section
variable {P : Program} {w : World} {K : PySem.W.Frag} {A B : Fb} {σ σ' : L2.St} {H H' : Hp} {ρ ρ' : Rho} {i : Nat} {a : Addr} {v : V} {d : PyData} {o : HO}
theorem rt_set_un {s : Slot} (hs : ∀ d, s ≠ .ow d) {x : Addr} : Rt σ (ρ.set i s) x → Rt σ ρ x := fun ⟨j, e, h1, h2⟩ => by
  by_cases hj : i = j
  · subst hj
    rw [List.getElem?_set] at h1
    simp only [if_true] at h1
    split at h1
    · cases h1
      exact absurd rfl (hs e)
    · cases h1
  · rw [List.getElem?_set_ne hj] at h1
    exact ⟨j, e, h1, h2⟩
theorem RS.weak (R : RS P w K B σ H ρ) (f : ∀ a, A a → B a) : RS P w K A σ H ρ where
  len := R.len
  trk := fun a h => R.trk a (f a h)
  sh := fun i d h => let ⟨v, h1, h2⟩ := R.sh i d h; ⟨v, h1, h2.mono fun a z => z.elim (fun z => .inl (f a z)) .inr⟩
  ow := fun i d h => let ⟨a, h1, h2, h3⟩ := R.ow i d h; ⟨a, h1, fun z => h2 (f a z), h3.step (fun _ _ q _ => q) (fun a _ _ n z => n (z.elim (fun z => .inl (f a z)) .inr)) fun _ q => q⟩
  inj := R.inj
/-- a new object, protected -/
theorem RS.fresh (R : RS P w K A σ H ρ) (ex : Ext H H') (hn : H a = none) (ht : ∃ o, H' a = some o) : RS P w K (A.add a) σ H' ρ where
  len := R.len
  trk := fun x h => h.elim (fun h => let ⟨u, q⟩ := R.trk x h; ⟨u, ex x u q⟩) fun h => by rw [h]; exact ht
  sh := fun i d h => let ⟨v, h1, h2⟩ := R.sh i d h; ⟨v, h1, h2.step (fun x u q _ => ex x u q) fun x u q n z => by
    rcases z with (z | z) | z
    · exact n (.inl z)
    · rw [z, hn] at q; cases q
    · exact n (.inr z)⟩
  ow := fun i d h => let ⟨b, h1, h2, h3⟩ := R.ow i d h; ⟨b, h1, (fun z => z.elim h2 fun z => by
      obtain ⟨u, q⟩ := h3.there
      rw [z, hn] at q; cases q), h3.step (fun x u q _ => ex x u q) (fun x u q n z => by
        rcases z with (z | z) | z
        · exact n (.inl z)
        · rw [z, hn] at q; cases q
        · exact n (.inr z)) fun u q => ex b u q⟩
  inj := R.inj
theorem denAll_fresh (hn : H a = none) {F : Fb} {vs : List V} {ds : List PyData} (h : DenAll P w K H F vs ds) : DenAll P w K (upd H a o) (fun x => F x ∨ x = a) vs ds :=
  h.step (fun x u q _ => ext_new hn x u q) fun x u q n z => z.elim n fun z => by rw [z, hn] at q; cases q
theorem fbs_add {x : Addr} : FbS (A.add a) σ ρ x → FbS A σ ρ x ∨ x = a := fun h => by
  rcases h with (h | h) | h
  · exact .inl (.inl h)
  · exact .inr h
  · exact .inl (.inr h)
theorem get_len (R : RS P w K A σ H ρ) {v' : Option V} (h : σ[i]? = some v') : i < ρ.length := by
  rw [← R.len]
  exact (List.getElem?_eq_some_iff.mp h).1
theorem rt_sh {x : Addr} : Rt (σ.set i (some v)) (ρ.set i (.sh d)) x → Rt σ ρ x := fun ⟨j, e, h1, h2⟩ => by
  by_cases hj : i = j
  · subst hj
    rw [List.getElem?_set] at h1
    simp only [if_true] at h1
    split at h1
    · cases h1
    · cases h1
  · rw [List.getElem?_set_ne hj] at h1 h2
    exact ⟨j, e, h1, h2⟩
theorem fbs_sh {x : Addr} : FbS A (σ.set i (some v)) (ρ.set i (.sh d)) x → FbS A σ ρ x := fun h => h.elim .inl fun h => .inr (rt_sh h)
/-- a value is stored -/
theorem RS.store (R : RS P w K A σ H ρ) (h : Den P w K H (FbS A σ ρ) v d) : RS P w K A (σ.set i (some v)) H (ρ.set i (.sh d)) where
  len := by rw [List.length_set, List.length_set, R.len]
  trk := R.trk
  sh := fun j e q => by
    by_cases hj : i = j
    · subst hj
      rw [List.getElem?_set] at q
      simp only [if_true] at q
      split at q
      · rename_i hl
        cases q
        refine ⟨v, ?_, h.mono fun x => fbs_sh⟩
        rw [List.getElem?_set]
        simp only [if_true]
        rw [if_pos (by rw [R.len]; exact hl)]
      · cases q
    · rw [List.getElem?_set_ne hj] at q ⊢
      obtain ⟨v', h1, h2⟩ := R.sh j e q
      exact ⟨v', h1, h2.mono fun x => fbs_sh⟩
  ow := fun j e q => by
    by_cases hj : i = j
    · subst hj
      rw [List.getElem?_set] at q
      simp only [if_true] at q
      split at q <;> cases q
    · rw [List.getElem?_set_ne hj] at q ⊢
      obtain ⟨b, h1, h2, h3⟩ := R.ow j e q
      exact ⟨b, h1, h2, h3.step (fun _ _ q _ => q) (fun _ _ _ n z => n (fbs_sh z)) fun _ q => q⟩
  inj := fun j k d' e' b h1 h2 h3 h4 => by
    have z : ∀ {j : Nat} {e : PyData}, (ρ.set i (.sh d))[j]? = some (.ow e) → i ≠ j := fun {j e} q hj => by
      subst hj
      rw [List.getElem?_set] at q
      simp only [if_true] at q
      split at q <;> cases q
    have zj := z h1
    have zk := z h2
    rw [List.getElem?_set_ne zj] at h1 h3
    rw [List.getElem?_set_ne zk] at h2 h4
    exact R.inj j k d' e' b h1 h2 h3 h4
theorem rt_ow {x : Addr} : Rt (σ.set i (some (.ref a))) (ρ.set i (.ow d)) x → Rt σ ρ x ∨ x = a := fun ⟨j, e, h1, h2⟩ => by
  by_cases hj : i = j
  · subst hj
    rw [List.getElem?_set] at h2
    simp only [if_true] at h2
    split at h2
    · cases h2
      exact .inr rfl
    · cases h2
  · rw [List.getElem?_set_ne hj] at h1 h2
    exact .inl ⟨j, e, h1, h2⟩
theorem fbs_ow {x : Addr} : FbS A (σ.set i (some (.ref a))) (ρ.set i (.ow d)) x → FbS (A.add a) σ ρ x := fun h => h.elim (fun h => .inl (.inl h)) fun h => (rt_ow h).elim .inr fun h => .inl (.inr h)
/-- a new object is stored -/
theorem RS.storeOw (R : RS P w K (A.add a) σ H ρ) (hA : ¬ A a) (h : Own P w K H (FbS (A.add a) σ ρ) a d) : RS P w K A (σ.set i (some (.ref a))) H (ρ.set i (.ow d)) where
  len := by rw [List.length_set, List.length_set, R.len]
  trk := fun x h => R.trk x (.inl h)
  sh := fun j e q => by
    by_cases hj : i = j
    · subst hj
      rw [List.getElem?_set] at q
      simp only [if_true] at q
      split at q <;> cases q
    · rw [List.getElem?_set_ne hj] at q ⊢
      obtain ⟨v', h1, h2⟩ := R.sh j e q
      exact ⟨v', h1, h2.mono fun x => fbs_ow⟩
  ow := fun j e q => by
    by_cases hj : i = j
    · subst hj
      rw [List.getElem?_set] at q
      simp only [if_true] at q
      split at q
      · rename_i hl
        cases q
        refine ⟨a, ?_, hA, h.step (fun _ _ q _ => q) (fun _ _ _ n z => n (fbs_ow z)) fun _ q => q⟩
        rw [List.getElem?_set]
        simp only [if_true]
        rw [if_pos (by rw [R.len]; exact hl)]
      · cases q
    · rw [List.getElem?_set_ne hj] at q ⊢
      obtain ⟨b, h1, h2, h3⟩ := R.ow j e q
      exact ⟨b, h1, fun z => h2 (.inl z), h3.step (fun _ _ q _ => q) (fun _ _ _ n z => n (fbs_ow z)) fun _ q => q⟩
  inj := fun j k d' e' b h1 h2 h3 h4 => by
    have other : ∀ {j : Nat} {e : PyData} {b : Addr}, i ≠ j → (ρ.set i (.ow d))[j]? = some (.ow e) → (σ.set i (some (.ref a)))[j]? = some (some (.ref b)) → b ≠ a := fun {j e b} hj q1 q2 z => by
      rw [List.getElem?_set_ne hj] at q1 q2
      obtain ⟨b', e1, e2, _⟩ := R.ow j e q1
      rw [q2] at e1
      cases e1
      exact e2 (.inr z)
    have same : ∀ {b : Addr}, (σ.set i (some (.ref a)))[i]? = some (some (.ref b)) → b = a := fun {b} q => by
      rw [List.getElem?_set] at q
      simp only [if_true] at q
      split at q
      · cases q; rfl
      · cases q
    by_cases hj : i = j
    · subst hj
      by_cases hk : i = k
      · exact hk
      · exact absurd (same h3) (other hk h2 h4)
    · by_cases hk : i = k
      · subst hk
        exact absurd (same h4) (other hj h1 h3)
      · rw [List.getElem?_set_ne hj] at h1 h3
        rw [List.getElem?_set_ne hk] at h2 h4
        exact R.inj j k d' e' b h1 h2 h3 h4
/-- a variable's own object is given away -/
theorem RS.drop (R : RS P w K A σ H ρ) (h : ρ[i]? = some (.ow d)) : ∃ b, σ[i]? = some (some (.ref b)) ∧ RS P w K A σ H (ρ.set i (.sh d)) ∧ Den P w K H (FbS A σ (ρ.set i (.sh d))) (.ref b) d ∧ (∀ x, Rt σ (ρ.set i (.sh d)) x → Rt σ ρ x) := by
  obtain ⟨b, h1, h2, h3⟩ := R.ow i d h
  have sub : ∀ x, Rt σ (ρ.set i (.sh d)) x → Rt σ ρ x := fun x z => rt_set_un (fun _ q => by cases q) z
  have subF : ∀ x, FbS A σ (ρ.set i (.sh d)) x → FbS A σ ρ x := fun x z => z.elim .inl fun z => .inr (sub x z)
  have nb : ¬ FbS A σ (ρ.set i (.sh d)) b := by
    rintro (z | ⟨j, e, q1, q2⟩)
    · exact h2 z
    by_cases hj : i = j
    · subst hj
      rw [List.getElem?_set] at q1
      simp only [if_true] at q1
      split at q1 <;> cases q1
    · rw [List.getElem?_set_ne hj] at q1
      exact hj (R.inj i j d e b h q1 h1 q2)
  have own : Own P w K H (FbS A σ (ρ.set i (.sh d))) b d := h3.step (fun _ _ q _ => q) (fun x _ _ n z => n (subF x z)) fun _ q => q
  have dn := own.den nb
  refine ⟨b, h1, ⟨by rw [List.length_set]; exact R.len, R.trk, fun j e q => ?_, fun j e q => ?_, fun j k d' e' c q1 q2 => ?_⟩, dn, sub⟩
  · by_cases hj : i = j
    · subst hj
      rw [List.getElem?_set] at q
      simp only [if_true] at q
      split at q
      · cases q
        exact ⟨_, h1, dn⟩
      · cases q
    · rw [List.getElem?_set_ne hj] at q
      obtain ⟨v', e1, e2⟩ := R.sh j e q
      exact ⟨v', e1, e2.mono subF⟩
  · by_cases hj : i = j
    · subst hj
      rw [List.getElem?_set] at q
      simp only [if_true] at q
      split at q <;> cases q
    · rw [List.getElem?_set_ne hj] at q
      obtain ⟨c, e1, e2, e3⟩ := R.ow j e q
      exact ⟨c, e1, e2, e3.step (fun _ _ q _ => q) (fun x _ _ n z => n (subF x z)) fun _ q => q⟩
  · have z : ∀ {j : Nat} {e : PyData}, (ρ.set i (.sh d))[j]? = some (.ow e) → i ≠ j := fun {j e} q hj => by
      subst hj
      rw [List.getElem?_set] at q
      simp only [if_true] at q
      split at q <;> cases q
    have zj := z q1
    have zk := z q2
    rw [List.getElem?_set_ne zj] at q1
    rw [List.getElem?_set_ne zk] at q2
    exact R.inj j k d' e' c q1 q2
/-- a variable's own object is changed in place -/
theorem RS.mutG {d' : PyData} (R : RS P w K A σ H ρ) (h : ρ[i]? = some (.ow d)) (h1 : σ[i]? = some (some (.ref a))) (kk : ∀ x u, H x = some u → x ≠ a → H' x = some u) (hn : Own P w K H' (FbS A σ ρ) a d') : RS P w K A σ H' (ρ.set i (.ow d')) ∧ Pe σ H ρ H' (ρ.set i (.ow d')) := by
  obtain ⟨b, e1, h2, h3⟩ := R.ow i d h
  rw [h1] at e1
  cases e1
  have hra : Rt σ ρ a := ⟨i, d, h, h1⟩
  have sub : ∀ x, Rt σ (ρ.set i (.ow d')) x → Rt σ ρ x := fun x ⟨j, e, q1, q2⟩ => by
    by_cases hj : i = j
    · subst hj
      exact ⟨i, d, h, q2⟩
    · rw [List.getElem?_set_ne hj] at q1
      exact ⟨j, e, q1, q2⟩
  have subF : ∀ x, FbS A σ (ρ.set i (.ow d')) x → FbS A σ ρ x := fun x z => z.elim .inl fun z => .inr (sub x z)
  have kp : ∀ x u, H x = some u → ¬ FbS A σ ρ x → H' x = some u := fun x u q n => kk x u q fun z => n (by rw [z]; exact .inr hra)
  have th : ∀ x u, H x = some u → ∃ u, H' x = some u := fun x u q => by
    by_cases hx : x = a
    · subst hx
      exact hn.there
    · exact ⟨u, kk x u q hx⟩
  refine ⟨⟨by rw [List.length_set]; exact R.len, fun x z => ?_, fun j e q => ?_, fun j e q => ?_, fun j k e e' c q1 q2 q3 q4 => ?_⟩, fun x u q n => ?_, th, sub⟩
  · obtain ⟨u, q⟩ := R.trk x z
    exact th x u q
  · have hj : i ≠ j := fun hj => by
      subst hj
      rw [List.getElem?_set] at q
      simp only [if_true] at q
      split at q <;> cases q
    rw [List.getElem?_set_ne hj] at q
    obtain ⟨v', e1, e2⟩ := R.sh j e q
    exact ⟨v', e1, e2.step kp fun x _ _ n z => n (subF x z)⟩
  · by_cases hj : i = j
    · subst hj
      rw [List.getElem?_set] at q
      simp only [if_true] at q
      split at q
      · cases q
        exact ⟨a, h1, h2, hn.step (fun _ _ q _ => q) (fun x _ _ n z => n (subF x z)) fun _ q => q⟩
      · cases q
    · rw [List.getElem?_set_ne hj] at q
      obtain ⟨c, e1, e2, e3⟩ := R.ow j e q
      have hc : c ≠ a := fun z => hj (R.inj i j d e a h q h1 (by rw [← z]; exact e1))
      exact ⟨c, e1, e2, e3.step kp (fun x _ _ n z => n (subF x z)) fun u q => kk c u q hc⟩
  · have z : ∀ {j : Nat} {e : PyData}, (ρ.set i (.ow d'))[j]? = some (.ow e) → ∃ e', ρ[j]? = some (.ow e') := fun {j e} q => by
      by_cases hj : i = j
      · subst hj
        exact ⟨d, h⟩
      · rw [List.getElem?_set_ne hj] at q
        exact ⟨e, q⟩
    obtain ⟨_, z1⟩ := z q1
    obtain ⟨_, z2⟩ := z q2
    exact R.inj j k _ _ c z1 z2 q3 q4
  · exact kk x u q fun z => n (by rw [z]; exact hra)
theorem RS.mut {d' : PyData} (R : RS P w K A σ H ρ) (h : ρ[i]? = some (.ow d)) (h1 : σ[i]? = some (some (.ref a))) (hn : Own P w K (upd H a o) (FbS A σ ρ) a d') : RS P w K A σ (upd H a o) (ρ.set i (.ow d')) ∧ Pe σ H ρ (upd H a o) (ρ.set i (.ow d')) :=
  R.mutG h h1 (fun x u q n => by rw [upd_ne n]; exact q) hn
theorem EnR.e {t : TE} {f : EF} (h : EnR P w K t f) : EvR P w K t f := fun A σ H ρ d ρ' Q R e k => h A σ H ρ d ρ' Q R e fun a H' R' p n dn => k _ H' (R'.weak fun _ z => .inl z) p
  ((dn.step (fun _ _ q _ => q) (fun x _ _ n z => n (z.elim (fun z => .inl (.inl z)) .inr)) (fun _ q => q)).den fun z => by
  have q : ∃ o, H a = some o := by
    rcases z with z | z
    · exact R.trk a z
    · exact R.ftrk a (.inr (p.sub a z))
  obtain ⟨o, q⟩ := q
  rw [n] at q
  cases q)
end
theorem EN.e {X : Cx} {e : Expr} {f : EF} (h : EN X e f) : EV X e f := let ⟨t, h1, h2⟩ := h; ⟨t, h1, h2.e⟩
end EV
namespace EV
open PySem PySem.Spec PyProof.Rows L2

/-! ### variables, constants -/
def eVar (i : Nat) : EF := fun ρ => match ρ[i]? with
  | some (.sh d) => some (d, ρ)
  | some (.ow d) => some (d, ρ.set i (.sh d))
  | _ => none
def rVar (i : Nat) : EF := fun ρ => match ρ[i]? with
  | some (.sh d) => some (d, ρ)
  | some (.ow d) => some (d, ρ)
  | _ => none
def eC (d : PyData) : EF := fun ρ => some (d, ρ)
section
variable {P : Program} {w : World} {K : PySem.W.Frag} {A : Fb} {σ : L2.St} {H : Hp} {ρ ρ' : Rho} {i : Nat} {d : PyData}
theorem RS.read (R : RS P w K A σ H ρ) (e : rVar i ρ = some (d, ρ')) : ρ' = ρ ∧ ∃ v, σ[i]? = some (some v) ∧ DenX P w K H (FbS A σ ρ) v d := by
  unfold rVar at e
  split at e
  · rename_i d' h
    cases e
    obtain ⟨v, h1, h2⟩ := R.sh i _ h
    exact ⟨rfl, v, h1, h2.x⟩
  · rename_i d' h
    cases e
    obtain ⟨a, h1, _, h2⟩ := R.ow i _ h
    exact ⟨rfl, _, h1, .ow h2⟩
  · cases e
theorem evR_var : EvR P w K (tVar i) (eVar i) := by
  intro A σ H ρ d ρ' Q R e k
  unfold eVar at e
  split at e
  · rename_i d' h
    cases e
    obtain ⟨v, h1, h2⟩ := R.sh i _ h
    exact ⟨v, h1, k v H R Pe.refl h2⟩
  · rename_i d' h
    cases e
    obtain ⟨b, h1, R', dn, sub⟩ := R.drop h
    exact ⟨_, h1, k _ H R' ⟨fun _ _ h _ => h, fun _ o h => ⟨o, h⟩, sub⟩ dn⟩
  · cases e
theorem exR_var : ExR P w K (tVar i) (rVar i) := by
  intro A σ H ρ d ρ' Q R e k
  obtain ⟨rfl, v, h1, h2⟩ := R.read e
  exact ⟨v, h1, k v H R Pe.refl h2⟩
theorem evR_c {v : V} (h : ∀ H F, Den P w K H F v d) : EvR P w K (tC v) (eC d) := by
  intro A σ H ρ d ρ' Q R e k
  cases e
  exact k v H R Pe.refl (h _ _)
end
section
variable {X : Cx} {i : Nat} {x : Str} {pos : Pos} {j : Nat}
theorem ev_var (i : Nat) (hN : X.N[i]? = some x := by rfl) (hv : Vis X.env.scope x := by first | exact Or.inl rfl | exact Or.inr (Or.inl rfl) | exact Or.inr (Or.inr rfl)) (hd : (x == ("__debug__" : Str)) = false := by decide)
    (hcd : (x == ("__classdict__" : Str)) = false := by decide) : EV X (.Name x pos) (eVar i) := ⟨_, pe_var hN hv hd hcd, evR_var⟩
theorem ex_var (i : Nat) (hN : X.N[i]? = some x := by rfl) (hv : Vis X.env.scope x := by first | exact Or.inl rfl | exact Or.inr (Or.inl rfl) | exact Or.inr (Or.inr rfl)) (hd : (x == ("__debug__" : Str)) = false := by decide)
    (hcd : (x == ("__classdict__" : Str)) = false := by decide) : EX X (.Name x pos) (rVar i) := ⟨_, pe_var hN hv hd hcd, exR_var⟩
theorem ev_int {n : Int} : EV X (.Constant (.int n) j pos) (eC (.int n)) := ⟨_, pe_int, evR_c fun _ _ => .int n⟩
theorem ev_bl {n : Bool} : EV X (.Constant (.bool n) j pos) (eC (.bool n)) := ⟨_, pe_bl, evR_c fun _ _ => .bl n⟩
theorem ev_non : EV X (.Constant .none j pos) (eC .none) := ⟨_, pe_non, evR_c fun _ _ => .non⟩
theorem ev_str {n : Str} : EV X (.Constant (.str n) j pos) (eC (.str n)) := ⟨_, pe_str, evR_c fun _ _ => .str n⟩
/-- a constant of the module -/
theorem ev_glob {v : V} {u : Value} {d : PyData} (hm : X.mg x = some u) (r : RelV v u) (hd : ∀ H F, Den X.prog X.w X.K H F v d) (hg : Gl X x := by rfl) (hdb : (x == ("__debug__" : Str)) = false := by decide) : EV X (.Name x pos) (eC d) := ⟨_, pe_glob hg hm r hdb, evR_c hd⟩
end

/-! ### operations -/
def rBy (P : Program) (w : World) (K : PySem.W.Frag) (o : PyData → PyData → Option PyData) : R2 := fun x y H Q =>
  ∃ (F : Fb) (d e z : PyData), (∀ a, F a → ∃ o, H a = some o) ∧ DenX P w K H F x d ∧ DenX P w K H F y e ∧ o d e = some z ∧ ∀ v H', Ext H H' → Den P w K H' F v z → Q v H'
/-- .. a new object -/
def rByN (P : Program) (w : World) (K : PySem.W.Frag) (o : PyData → PyData → Option PyData) : R2 := fun x y H Q =>
  ∃ (F : Fb) (d e z : PyData), (∀ a, F a → ∃ o, H a = some o) ∧ DenX P w K H F x d ∧ DenX P w K H F y e ∧ o d e = some z ∧
    ∀ a H', Ext H H' → H a = none → Own P w K H' (fun x => F x ∨ x = a) a z → Q (.ref a) H'
def eOp (o : PyData → PyData → Option PyData) (f g : EF) : EF := fun ρ => (f ρ).bind fun p => (g p.2).bind fun q => (o p.1 q.1).map fun z => (z, q.2)
/-- the first operand a variable, read in place -/
def eOpV (o : PyData → PyData → Option PyData) (i : Nat) (g : EF) : EF := fun ρ => (rVar i ρ).bind fun _ => (g ρ).bind fun q => (rVar i q.2).bind fun p => (o p.1 q.1).map fun z => (z, q.2)
def dOpB {α β γ : Type} (x : Option α) (f : α → Option β) : Option β := x.bind f
section
variable {P : Program} {w : World} {K : PySem.W.Frag} {ta tb : TE} {f g : EF} {o : PyData → PyData → Option PyData} {i : Nat}
theorem fbsub {A : Fb} {σ : L2.St} {ρ : Rho} {a : Addr} : ∀ x, FbS (A.add a) σ ρ x → FbS A σ ρ x ∨ x = a := fun x z => by
  rcases z with (z | z) | z
  · exact .inl (.inl z)
  · exact .inr z
  · exact .inl (.inr z)
theorem Own.sub {H : Hp} {F F' : Fb} {a : Addr} {d : PyData} (h : Own P w K H F a d) (s : ∀ x, F' x → F x) : Own P w K H F' a d := h.step (fun _ _ q _ => q) (fun x _ _ n z => n (s x z)) fun _ q => q
theorem evR_op (ha : EvR P w K ta f) (hb : ExR P w K tb g) : EvR P w K (tOp (rBy P w K o) ta tb) (eOp o f g) := by
  intro A σ H ρ d ρ' Q R e k
  unfold eOp at e
  obtain ⟨⟨d1, ρ1⟩, e1, e⟩ := Option.bind_eq_some_iff.mp e
  obtain ⟨⟨d2, ρ2⟩, e2, e⟩ := Option.bind_eq_some_iff.mp e
  obtain ⟨z, e3, e⟩ := Option.map_eq_some_iff.mp e
  cases e
  refine ha A σ H ρ d1 ρ1 _ R e1 fun v1 H1 R1 p1 n1 => ?_
  refine hb A σ H1 ρ1 d2 ρ2 _ R1 e2 fun v2 H2 R2 p2 n2 => ?_
  exact ⟨FbS A σ ρ2, d1, d2, _, R2.ftrk, (R1.den p2.stp n1).x, n2, e3, fun v H' ex dn => k v H' (R2.ext ex) ((p1.trans p2).trans (Pe.ext ex)) dn⟩
theorem evR_opV (hb : ExR P w K tb g) : EvR P w K (tOp (rBy P w K o) (tVar i) tb) (eOpV o i g) := by
  intro A σ H ρ d ρ' Q R e k
  unfold eOpV at e
  obtain ⟨⟨d0, ρ0⟩, e0, e⟩ := Option.bind_eq_some_iff.mp e
  obtain ⟨⟨d2, ρ2⟩, e2, e⟩ := Option.bind_eq_some_iff.mp e
  obtain ⟨⟨d1, ρ3⟩, e1, e⟩ := Option.bind_eq_some_iff.mp e
  obtain ⟨z, e3, e⟩ := Option.map_eq_some_iff.mp e
  cases e
  obtain ⟨_, v, hv, _⟩ := R.read e0
  refine ⟨v, hv, hb A σ H ρ d2 ρ2 _ R e2 fun v2 H2 R2 p2 n2 => ?_⟩
  obtain ⟨rfl, v', hv', n1⟩ := R2.read e1
  rw [hv] at hv'
  cases hv'
  exact ⟨FbS A σ _, d1, d2, _, R2.ftrk, n1, n2, e3, fun v H' ex dn => k v H' (R2.ext ex) (p2.trans (Pe.ext ex)) dn⟩
theorem enR_op (ha : EvR P w K ta f) (hb : ExR P w K tb g) : EnR P w K (tOp (rByN P w K o) ta tb) (eOp o f g) := by
  intro A σ H ρ d ρ' Q R e k
  unfold eOp at e
  obtain ⟨⟨d1, ρ1⟩, e1, e⟩ := Option.bind_eq_some_iff.mp e
  obtain ⟨⟨d2, ρ2⟩, e2, e⟩ := Option.bind_eq_some_iff.mp e
  obtain ⟨z, e3, e⟩ := Option.map_eq_some_iff.mp e
  cases e
  refine ha A σ H ρ d1 ρ1 _ R e1 fun v1 H1 R1 p1 n1 => ?_
  refine hb A σ H1 ρ1 d2 ρ2 _ R1 e2 fun v2 H2 R2 p2 n2 => ?_
  exact ⟨FbS A σ ρ2, d1, d2, _, R2.ftrk, (R1.den p2.stp n1).x, n2, e3, fun a H' ex n dn => k a H' (R2.fresh ex n dn.there) ((p1.trans p2).trans (Pe.ext ex)) (by
    cases q : H a with
    | none => rfl
    | some o =>
      obtain ⟨o', q'⟩ := (p1.trans p2).there a o q
      rw [n] at q'
      cases q') (dn.sub fbsub)⟩
theorem enR_opV (hb : ExR P w K tb g) : EnR P w K (tOp (rByN P w K o) (tVar i) tb) (eOpV o i g) := by
  intro A σ H ρ d ρ' Q R e k
  unfold eOpV at e
  obtain ⟨⟨d0, ρ0⟩, e0, e⟩ := Option.bind_eq_some_iff.mp e
  obtain ⟨⟨d2, ρ2⟩, e2, e⟩ := Option.bind_eq_some_iff.mp e
  obtain ⟨⟨d1, ρ3⟩, e1, e⟩ := Option.bind_eq_some_iff.mp e
  obtain ⟨z, e3, e⟩ := Option.map_eq_some_iff.mp e
  cases e
  obtain ⟨_, v, hv, _⟩ := R.read e0
  refine ⟨v, hv, hb A σ H ρ d2 ρ2 _ R e2 fun v2 H2 R2 p2 n2 => ?_⟩
  obtain ⟨rfl, v', hv', n1⟩ := R2.read e1
  rw [hv] at hv'
  cases hv'
  exact ⟨FbS A σ _, d1, d2, _, R2.ftrk, n1, n2, e3, fun a H' ex n dn => k a H' (R2.fresh ex n dn.there) (p2.trans (Pe.ext ex)) (by
    cases q : H a with
    | none => rfl
    | some o =>
      obtain ⟨o', q'⟩ := p2.there a o q
      rw [n] at q'
      cases q') (dn.sub fbsub)⟩
end
abbrev OpS (X : Cx) (fv : Value → Value → Sem Value) (o : PyData → PyData → Option PyData) : Prop := OpR X fv (rBy X.prog X.w X.K o)
abbrev OpN (X : Cx) (fv : Value → Value → Sem Value) (o : PyData → PyData → Option PyData) : Prop := OpR X fv (rByN X.prog X.w X.K o)
abbrev IxS (X : Cx) (o : PyData → PyData → Option PyData) : Prop := IxR X (rBy X.prog X.w X.K o)
section
variable {X : Cx} {a b c : Expr} {f g h : EF} {o o' : PyData → PyData → Option PyData} {pos npos : Pos} {i : Nat} {x : Str} {op : Operator} {cop cop' : CmpOp}
theorem ev_bin (ho : OpS X (binaryOp op) o) (ha : EV X a f) (hb : EX X b g) : EV X (.BinOp a op b pos) (eOp o f g) := let ⟨_, h1, h2⟩ := ha; let ⟨_, k1, k2⟩ := hb; ⟨_, pe_op ho h1 k1, evR_op h2 k2⟩
theorem en_bin (ho : OpN X (binaryOp op) o) (ha : EV X a f) (hb : EX X b g) : EN X (.BinOp a op b pos) (eOp o f g) := let ⟨_, h1, h2⟩ := ha; let ⟨_, k1, k2⟩ := hb; ⟨_, pe_op ho h1 k1, enR_op h2 k2⟩
theorem ev_binV (i : Nat) (ho : OpS X (binaryOp op) o) (hb : EX X b g) (hN : X.N[i]? = some x := by rfl) (hv : Vis X.env.scope x := by first | exact Or.inl rfl | exact Or.inr (Or.inl rfl) | exact Or.inr (Or.inr rfl)) (hd : (x == ("__debug__" : Str)) = false := by decide)
    (hcd : (x == ("__classdict__" : Str)) = false := by decide) : EV X (.BinOp (.Name x npos) op b pos) (eOpV o i g) := let ⟨_, k1, k2⟩ := hb; ⟨_, pe_op ho (pe_var hN hv hd hcd) k1, evR_opV k2⟩
theorem en_binV (i : Nat) (ho : OpN X (binaryOp op) o) (hb : EX X b g) (hN : X.N[i]? = some x := by rfl) (hv : Vis X.env.scope x := by first | exact Or.inl rfl | exact Or.inr (Or.inl rfl) | exact Or.inr (Or.inr rfl)) (hd : (x == ("__debug__" : Str)) = false := by decide)
    (hcd : (x == ("__classdict__" : Str)) = false := by decide) : EN X (.BinOp (.Name x npos) op b pos) (eOpV o i g) := let ⟨_, k1, k2⟩ := hb; ⟨_, pe_op ho (pe_var hN hv hd hcd) k1, enR_opV k2⟩
theorem ev_cmp (ho : OpS X (compareOp cop) o) (ha : EV X a f) (hb : EX X b g) (hm : behindInMarks cop b = false := by first | exact nomark _ | rfl) : EV X (.Compare a [cop] [b] pos) (eOp o f g) := let ⟨_, h1, h2⟩ := ha; let ⟨_, k1, k2⟩ := hb; ⟨_, pe_cmpR ho h1 k1 hm, evR_op h2 k2⟩
theorem ev_cmpV (i : Nat) (ho : OpS X (compareOp cop) o) (hb : EX X b g) (hm : behindInMarks cop b = false := by first | exact nomark _ | rfl) (hN : X.N[i]? = some x := by rfl) (hv : Vis X.env.scope x := by first | exact Or.inl rfl | exact Or.inr (Or.inl rfl) | exact Or.inr (Or.inr rfl)) (hd : (x == ("__debug__" : Str)) = false := by decide)
    (hcd : (x == ("__classdict__" : Str)) = false := by decide) : EV X (.Compare (.Name x npos) [cop] [b] pos) (eOpV o i g) := let ⟨_, k1, k2⟩ := hb; ⟨_, pe_cmpR ho (pe_var hN hv hd hcd) k1 hm, evR_opV k2⟩
theorem ev_ix (ho : IxS X o) (ha : EV X a f) (hb : EX X b g) (hs : PlainIx b := by intro _ _; rfl) : EV X (.Subscript a b pos) (eOp o f g) := let ⟨_, h1, h2⟩ := ha; let ⟨_, k1, k2⟩ := hb; ⟨_, pe_ix ho h1 k1 hs, evR_op h2 k2⟩
theorem ev_ixV (i : Nat) (ho : IxS X o) (hb : EX X b g) (hs : PlainIx b := by intro _ _; rfl) (hN : X.N[i]? = some x := by rfl) (hv : Vis X.env.scope x := by first | exact Or.inl rfl | exact Or.inr (Or.inl rfl) | exact Or.inr (Or.inr rfl)) (hd : (x == ("__debug__" : Str)) = false := by decide)
    (hcd : (x == ("__classdict__" : Str)) = false := by decide) : EV X (.Subscript (.Name x npos) b pos) (eOpV o i g) := let ⟨_, k1, k2⟩ := hb; ⟨_, pe_ix ho (pe_var hN hv hd hcd) k1 hs, evR_opV k2⟩
end

/-! ### one operand -/
def rUn (P : Program) (w : World) (K : PySem.W.Frag) (o : PyData → Option PyData) : V → Hp → VK → Prop := fun x H Q =>
  ∃ (F : Fb) (d z : PyData), (∀ a, F a → ∃ o, H a = some o) ∧ DenX P w K H F x d ∧ o d = some z ∧ ∀ v H', Ext H H' → Den P w K H' F v z → Q v H'
def rUnN (P : Program) (w : World) (K : PySem.W.Frag) (o : PyData → Option PyData) : V → Hp → VK → Prop := fun x H Q =>
  ∃ (F : Fb) (d z : PyData), (∀ a, F a → ∃ o, H a = some o) ∧ DenX P w K H F x d ∧ o d = some z ∧ ∀ a H', Ext H H' → H a = none → Own P w K H' (fun x => F x ∨ x = a) a z → Q (.ref a) H'
def eUn (o : PyData → Option PyData) (f : EF) : EF := fun ρ => (f ρ).bind fun p => (o p.1).map fun z => (z, p.2)
section
variable {P : Program} {w : World} {K : PySem.W.Frag} {ta : TE} {f : EF} {o : PyData → Option PyData}
theorem evR_un (ha : ExR P w K ta f) : EvR P w K (fun σ H Q => ta σ H fun x H1 => rUn P w K o x H1 Q) (eUn o f) := by
  intro A σ H ρ d ρ' Q R e k
  unfold eUn at e
  obtain ⟨⟨d1, ρ1⟩, e1, e⟩ := Option.bind_eq_some_iff.mp e
  obtain ⟨z, e3, e⟩ := Option.map_eq_some_iff.mp e
  cases e
  refine ha A σ H ρ d1 ρ1 _ R e1 fun v1 H1 R1 p1 n1 => ?_
  exact ⟨FbS A σ ρ1, d1, _, R1.ftrk, n1, e3, fun v H' ex dn => k v H' (R1.ext ex) (p1.trans (Pe.ext ex)) dn⟩
theorem enR_un (ha : ExR P w K ta f) : EnR P w K (fun σ H Q => ta σ H fun x H1 => rUnN P w K o x H1 Q) (eUn o f) := by
  intro A σ H ρ d ρ' Q R e k
  unfold eUn at e
  obtain ⟨⟨d1, ρ1⟩, e1, e⟩ := Option.bind_eq_some_iff.mp e
  obtain ⟨z, e3, e⟩ := Option.map_eq_some_iff.mp e
  cases e
  refine ha A σ H ρ d1 ρ1 _ R e1 fun v1 H1 R1 p1 n1 => ?_
  exact ⟨FbS A σ ρ1, d1, _, R1.ftrk, n1, e3, fun a H' ex n dn => k a H' (R1.fresh ex n dn.there) (p1.trans (Pe.ext ex)) (by
    cases q : H a with
    | none => rfl
    | some o =>
      obtain ⟨o', q'⟩ := p1.there a o q
      rw [n] at q'
      cases q') (dn.sub fbsub)⟩
end
/-- a built-in's call with one argument -/
abbrev C1S (X : Cx) (fv : Value) (o : PyData → Option PyData) : Prop := CallR X fv fun xs H Q => ∃ x, xs = [x] ∧ rUn X.prog X.w X.K o x H Q
abbrev C1N (X : Cx) (fv : Value) (o : PyData → Option PyData) : Prop := CallR X fv fun xs H Q => ∃ x, xs = [x] ∧ rUnN X.prog X.w X.K o x H Q
abbrev C2S (X : Cx) (fv : Value) (o : PyData → PyData → Option PyData) : Prop := CallR X fv fun xs H Q => ∃ x y, xs = [x, y] ∧ rBy X.prog X.w X.K o x y H Q
abbrev UnS (X : Cx) (fv : Value → Sem Value) (o : PyData → Option PyData) : Prop := UnR X fv (rUn X.prog X.w X.K o)
section
variable {X : Cx} {a b c : Expr} {f g h : EF} {o : PyData → Option PyData} {o2 : PyData → PyData → Option PyData} {pos npos p : Pos} {x : Str} {uop : UnaryOp} {id : String}
theorem ev_un (ho : UnS X (unaryOp uop) o) (ha : EX X a f) : EV X (.UnaryOp uop a pos) (eUn o f) := let ⟨_, h1, h2⟩ := ha; ⟨_, pe_un ho h1, evR_un h2⟩
theorem tCB1 {r : V → Hp → VK → Prop} {ta : TE} : tCB (fun xs H Q => ∃ x, xs = [x] ∧ r x H Q) (tCons ta tNil) = fun σ H Q => ta σ H fun x H1 => ∃ y, [x] = [y] ∧ r y H1 Q := rfl
theorem PE.sw {e : Expr} {t t' : TE} (h : PE X e t) (k : ∀ σ H Q, t' σ H Q → t σ H Q) : PE X e t' := ⟨fun pins s σ H Q I q => h.run pins s σ H Q I (k σ H Q q)⟩
/-- every reading may be weakened at the end -/
def MonoE (t : TE) : Prop := ∀ σ H (Q Q' : VK), (∀ v H', Q v H' → Q' v H') → t σ H Q → t σ H Q'
theorem c1_of {o : PyData → Option PyData} {fv : Value} (hc : C1S X fv o) : CallR X fv fun xs H Q => ∃ x, xs = [x] ∧ rUn X.prog X.w X.K o x H Q := hc
section
variable {P : Program} {w : World} {K : PySem.W.Frag} {ta tb : TE}
theorem evR_c1 (ha : ExR P w K ta f) : EvR P w K (tCB (fun xs H Q => ∃ x, xs = [x] ∧ rUn P w K o x H Q) (tCons ta tNil)) (eUn o f) := by
  intro A σ H ρ d ρ' Q R e k
  unfold eUn at e
  obtain ⟨⟨d1, ρ1⟩, e1, e⟩ := Option.bind_eq_some_iff.mp e
  obtain ⟨z, e3, e⟩ := Option.map_eq_some_iff.mp e
  cases e
  refine ha A σ H ρ d1 ρ1 _ R e1 fun v1 H1 R1 p1 n1 => ?_
  exact ⟨_, rfl, FbS A σ ρ1, d1, _, R1.ftrk, n1, e3, fun v H' ex dn => k v H' (R1.ext ex) (p1.trans (Pe.ext ex)) dn⟩
theorem enR_c1 (ha : ExR P w K ta f) : EnR P w K (tCB (fun xs H Q => ∃ x, xs = [x] ∧ rUnN P w K o x H Q) (tCons ta tNil)) (eUn o f) := by
  intro A σ H ρ d ρ' Q R e k
  unfold eUn at e
  obtain ⟨⟨d1, ρ1⟩, e1, e⟩ := Option.bind_eq_some_iff.mp e
  obtain ⟨z, e3, e⟩ := Option.map_eq_some_iff.mp e
  cases e
  refine ha A σ H ρ d1 ρ1 _ R e1 fun v1 H1 R1 p1 n1 => ?_
  exact ⟨_, rfl, FbS A σ ρ1, d1, _, R1.ftrk, n1, e3, fun a H' ex n dn => k a H' (R1.fresh ex n dn.there) (p1.trans (Pe.ext ex)) (by
    cases q : H a with
    | none => rfl
    | some o =>
      obtain ⟨o', q'⟩ := p1.there a o q
      rw [n] at q'
      cases q') (dn.sub fbsub)⟩
theorem evR_c2 (ha : EvR P w K ta f) (hb : ExR P w K tb g) : EvR P w K (tCB (fun xs H Q => ∃ x y, xs = [x, y] ∧ rBy P w K o2 x y H Q) (tCons ta (tCons tb tNil))) (eOp o2 f g) := by
  intro A σ H ρ d ρ' Q R e k
  unfold eOp at e
  obtain ⟨⟨d1, ρ1⟩, e1, e⟩ := Option.bind_eq_some_iff.mp e
  obtain ⟨⟨d2, ρ2⟩, e2, e⟩ := Option.bind_eq_some_iff.mp e
  obtain ⟨z, e3, e⟩ := Option.map_eq_some_iff.mp e
  cases e
  refine ha A σ H ρ d1 ρ1 _ R e1 fun v1 H1 R1 p1 n1 => ?_
  refine hb A σ H1 ρ1 d2 ρ2 _ R1 e2 fun v2 H2 R2 p2 n2 => ?_
  exact ⟨_, _, rfl, FbS A σ ρ2, d1, d2, _, R2.ftrk, (R1.den p2.stp n1).x, n2, e3, fun v H' ex dn => k v H' (R2.ext ex) ((p1.trans p2).trans (Pe.ext ex)) dn⟩
end
theorem ev_c1 (hc : C1S X (.builtin id) o) (hm : X.mg x = none) (ha : EX X a f) (hg : Gl X x := by rfl) (hv : bootBuiltins x = some (.builtin id) := by decide +kernel) (hn : x ≠ "__name__" := by decide) (hdb : (x == ("__debug__" : Str)) = false := by decide)
    (he : starEach [a] X.env = (false, eval a X.env) :: starEach [] X.env := by rfl) : EV X (.Call (.Name x p) [a] [] pos) (eUn o f) := let ⟨_, h1, h2⟩ := ha; ⟨_, pe_callB hc hg hm hv (pa_cons h1 pa_nil he) hn hdb he, evR_c1 h2⟩
theorem ev_c1T (hc : C1S X (.type id) o) (hm : X.mg x = none) (ha : EX X a f) (hg : Gl X x := by rfl) (hv : bootBuiltins x = some (.type id) := by decide +kernel) (hn : x ≠ "__name__" := by decide) (hdb : (x == ("__debug__" : Str)) = false := by decide)
    (he : starEach [a] X.env = (false, eval a X.env) :: starEach [] X.env := by rfl) : EV X (.Call (.Name x p) [a] [] pos) (eUn o f) := let ⟨_, h1, h2⟩ := ha; ⟨_, pe_callTy hc hg hm hv (pa_cons h1 pa_nil he) hn hdb he, evR_c1 h2⟩
theorem en_c1 (hc : C1N X (.builtin id) o) (hm : X.mg x = none) (ha : EX X a f) (hg : Gl X x := by rfl) (hv : bootBuiltins x = some (.builtin id) := by decide +kernel) (hn : x ≠ "__name__" := by decide) (hdb : (x == ("__debug__" : Str)) = false := by decide)
    (he : starEach [a] X.env = (false, eval a X.env) :: starEach [] X.env := by rfl) : EN X (.Call (.Name x p) [a] [] pos) (eUn o f) := let ⟨_, h1, h2⟩ := ha; ⟨_, pe_callB hc hg hm hv (pa_cons h1 pa_nil he) hn hdb he, enR_c1 h2⟩
theorem en_c1T (hc : C1N X (.type id) o) (hm : X.mg x = none) (ha : EX X a f) (hg : Gl X x := by rfl) (hv : bootBuiltins x = some (.type id) := by decide +kernel) (hn : x ≠ "__name__" := by decide) (hdb : (x == ("__debug__" : Str)) = false := by decide)
    (he : starEach [a] X.env = (false, eval a X.env) :: starEach [] X.env := by rfl) : EN X (.Call (.Name x p) [a] [] pos) (eUn o f) := let ⟨_, h1, h2⟩ := ha; ⟨_, pe_callTy hc hg hm hv (pa_cons h1 pa_nil he) hn hdb he, enR_c1 h2⟩
theorem ev_c2 (hc : C2S X (.builtin id) o2) (hm : X.mg x = none) (ha : EV X a f) (hb : EX X b g) (hg : Gl X x := by rfl) (hv : bootBuiltins x = some (.builtin id) := by decide +kernel) (hn : x ≠ "__name__" := by decide) (hdb : (x == ("__debug__" : Str)) = false := by decide)
    (he : starEach [a, b] X.env = (false, eval a X.env) :: starEach [b] X.env := by rfl) (he2 : starEach [b] X.env = (false, eval b X.env) :: starEach [] X.env := by rfl) : EV X (.Call (.Name x p) [a, b] [] pos) (eOp o2 f g) := let ⟨_, h1, h2⟩ := ha; let ⟨_, k1, k2⟩ := hb; ⟨_, pe_callB hc hg hm hv (pa_cons h1 (pa_cons k1 pa_nil he2) he) hn hdb he (by rw [he2]; rfl), evR_c2 h2 k2⟩
end

/-! ### tests -/
def bOf (f : EF) : BF := fun ρ => (f ρ).bind fun p => match p.1 with
  | .bool b => some (b, p.2)
  | _ => none
def bAnd (f g : BF) : BF := fun ρ => (f ρ).bind fun p => if p.1 = true then g p.2 else some (false, p.2)
def bOr (f g : BF) : BF := fun ρ => (f ρ).bind fun p => if p.1 = true then some (true, p.2) else g p.2
def bNot (f : BF) : BF := fun ρ => (f ρ).map fun p => (!p.1, p.2)
def eAnd (f g : EF) : EF := fun ρ => (bOf f ρ).bind fun p => if p.1 = true then g p.2 else some (.bool false, p.2)
def eOr (f g : EF) : EF := fun ρ => (bOf f ρ).bind fun p => if p.1 = true then some (.bool true, p.2) else g p.2
def eNot (f : EF) : EF := fun ρ => (bOf f ρ).map fun p => (.bool (!p.1), p.2)
def eIf (c : BF) (f g : EF) : EF := fun ρ => (c ρ).bind fun p => if p.1 = true then f p.2 else g p.2
/-- a op b op' c -/
def eChn (o o' : PyData → PyData → Option PyData) (f g h : EF) : EF := fun ρ => (f ρ).bind fun p => (g p.2).bind fun q => (o p.1 q.1).bind fun z => match z with
  | .bool true => (h q.2).bind fun r => (o' q.1 r.1).map fun z => (z, r.2)
  | .bool false => some (.bool false, q.2)
  | _ => none
section
variable {P : Program} {w : World} {K : PySem.W.Frag} {ta tb tc : TE} {t u : TT} {f g h : EF} {c d : BF} {o o' : PyData → PyData → Option PyData}
theorem tvR_test (ha : EvR P w K ta f) : TvR P w K (tTest ta) (bOf f) := by
  intro A σ H ρ d ρ' Q R e k
  unfold bOf at e
  obtain ⟨⟨d1, ρ1⟩, e1, e⟩ := Option.bind_eq_some_iff.mp e
  cases d1 with
  | bool b =>
    cases e
    refine ha A σ H ρ _ _ _ R e1 fun v1 H1 R1 p1 n1 => ?_
    cases n1
    exact ⟨_, rfl, k H1 R1 p1⟩
  | _ => cases e
theorem tvR_B (ha : EvR P w K ta f) : TvR P w K (tB ta) (bOf f) := by
  intro A σ H ρ d ρ' Q R e k
  unfold bOf at e
  obtain ⟨⟨d1, ρ1⟩, e1, e⟩ := Option.bind_eq_some_iff.mp e
  cases d1 with
  | bool b =>
    cases e
    refine ha A σ H ρ _ _ _ R e1 fun v1 H1 R1 p1 n1 => ?_
    cases n1
    exact ⟨_, rfl, k H1 R1 p1⟩
  | _ => cases e
theorem tvR_and (ha : TvR P w K t c) (hb : TvR P w K u d) : TvR P w K (tAnd t u) (bAnd c d) := by
  intro A σ H ρ b ρ' Q R e k
  unfold bAnd at e
  obtain ⟨⟨d1, ρ1⟩, e1, e⟩ := Option.bind_eq_some_iff.mp e
  refine ha A σ H ρ _ _ _ R e1 fun H1 R1 p1 => ?_
  cases d1 with
  | true =>
    rw [if_pos rfl]
    exact hb A σ H1 ρ1 _ _ _ R1 e fun H2 R2 p2 => k H2 R2 (p1.trans p2)
  | false =>
    cases e
    exact k H1 R1 p1
theorem tvR_or (ha : TvR P w K t c) (hb : TvR P w K u d) : TvR P w K (tOr t u) (bOr c d) := by
  intro A σ H ρ b ρ' Q R e k
  unfold bOr at e
  obtain ⟨⟨d1, ρ1⟩, e1, e⟩ := Option.bind_eq_some_iff.mp e
  refine ha A σ H ρ _ _ _ R e1 fun H1 R1 p1 => ?_
  cases d1 with
  | false =>
    rw [if_neg Bool.false_ne_true]
    exact hb A σ H1 ρ1 _ _ _ R1 e fun H2 R2 p2 => k H2 R2 (p1.trans p2)
  | true =>
    cases e
    exact k H1 R1 p1
theorem tvR_not (ha : TvR P w K t c) : TvR P w K (tNot t) (bNot c) := by
  intro A σ H ρ b ρ' Q R e k
  unfold bNot at e
  obtain ⟨⟨d1, ρ1⟩, e1, e⟩ := Option.map_eq_some_iff.mp e
  cases e
  exact ha A σ H ρ _ _ _ R e1 fun H1 R1 p1 => k H1 R1 p1
theorem evR_and (ha : EvR P w K ta f) (hb : EvR P w K tb g) : EvR P w K (tAndV ta tb) (eAnd f g) := by
  intro A σ H ρ b ρ' Q R e k
  unfold eAnd bOf at e
  obtain ⟨⟨d1, ρ1⟩, e1, e⟩ := Option.bind_eq_some_iff.mp e
  obtain ⟨⟨d2, ρ2⟩, e2, e1⟩ := Option.bind_eq_some_iff.mp e1
  cases d2 with
  | bool x =>
    cases e1
    refine ha A σ H ρ _ _ _ R e2 fun v1 H1 R1 p1 n1 => ?_
    cases n1
    refine ⟨_, rfl, ?_⟩
    cases d1 with
    | true =>
      rw [if_pos rfl]
      exact hb A σ H1 _ _ _ _ R1 e fun v H2 R2 p2 n2 => k v H2 R2 (p1.trans p2) n2
    | false =>
      cases e
      exact k _ H1 R1 p1 (.bl false)
  | _ => cases e1
theorem evR_or (ha : EvR P w K ta f) (hb : EvR P w K tb g) : EvR P w K (tOrV ta tb) (eOr f g) := by
  intro A σ H ρ b ρ' Q R e k
  unfold eOr bOf at e
  obtain ⟨⟨d1, ρ1⟩, e1, e⟩ := Option.bind_eq_some_iff.mp e
  obtain ⟨⟨d2, ρ2⟩, e2, e1⟩ := Option.bind_eq_some_iff.mp e1
  cases d2 with
  | bool x =>
    cases e1
    refine ha A σ H ρ _ _ _ R e2 fun v1 H1 R1 p1 n1 => ?_
    cases n1
    refine ⟨_, rfl, ?_⟩
    cases d1 with
    | false =>
      rw [if_neg Bool.false_ne_true]
      exact hb A σ H1 _ _ _ _ R1 e fun v H2 R2 p2 n2 => k v H2 R2 (p1.trans p2) n2
    | true =>
      cases e
      exact k _ H1 R1 p1 (.bl true)
  | _ => cases e1
theorem evR_not (ha : EvR P w K ta f) : EvR P w K (tNotV ta) (eNot f) := by
  intro A σ H ρ b ρ' Q R e k
  unfold eNot bOf at e
  obtain ⟨⟨d1, ρ1⟩, e1, e⟩ := Option.map_eq_some_iff.mp e
  obtain ⟨⟨d2, ρ2⟩, e2, e1⟩ := Option.bind_eq_some_iff.mp e1
  cases d2 with
  | bool x =>
    cases e1
    cases e
    refine ha A σ H ρ _ _ _ R e2 fun v1 H1 R1 p1 n1 => ?_
    cases n1
    exact ⟨_, rfl, k _ H1 R1 p1 (.bl _)⟩
  | _ => cases e1
theorem evR_if (hc : TvR P w K t c) (ha : EvR P w K ta f) (hb : EvR P w K tb g) : EvR P w K (tIf t ta tb) (eIf c f g) := by
  intro A σ H ρ b ρ' Q R e k
  unfold eIf at e
  obtain ⟨⟨d1, ρ1⟩, e1, e⟩ := Option.bind_eq_some_iff.mp e
  refine hc A σ H ρ _ _ _ R e1 fun H1 R1 p1 => ?_
  cases d1 with
  | true =>
    rw [if_pos rfl]
    exact ha A σ H1 _ _ _ _ R1 e fun v H2 R2 p2 n2 => k v H2 R2 (p1.trans p2) n2
  | false =>
    rw [if_neg Bool.false_ne_true]
    exact hb A σ H1 _ _ _ _ R1 e fun v H2 R2 p2 n2 => k v H2 R2 (p1.trans p2) n2
theorem enR_if (hc : TvR P w K t c) (ha : EnR P w K ta f) (hb : EnR P w K tb g) : EnR P w K (tIf t ta tb) (eIf c f g) := by
  intro A σ H ρ b ρ' Q R e k
  unfold eIf at e
  obtain ⟨⟨d1, ρ1⟩, e1, e⟩ := Option.bind_eq_some_iff.mp e
  refine hc A σ H ρ _ _ _ R e1 fun H1 R1 p1 => ?_
  have fr : ∀ a, H1 a = none → H a = none := fun a n => by
    cases q : H a with
    | none => rfl
    | some o =>
      obtain ⟨o', q'⟩ := p1.there a o q
      rw [n] at q'
      cases q'
  cases d1 with
  | true =>
    rw [if_pos rfl]
    exact ha A σ H1 _ _ _ _ R1 e fun v H2 R2 p2 n n2 => k v H2 R2 (p1.trans p2) (fr _ n) n2
  | false =>
    rw [if_neg Bool.false_ne_true]
    exact hb A σ H1 _ _ _ _ R1 e fun v H2 R2 p2 n n2 => k v H2 R2 (p1.trans p2) (fr _ n) n2
theorem evR_chn (ha : EvR P w K ta f) (hb : EvR P w K tb g) (hc : ExR P w K tc h) : EvR P w K (tChain (rBy P w K o) (rBy P w K o') ta tb tc) (eChn o o' f g h) := by
  intro A σ H ρ b ρ' Q R e k
  unfold eChn at e
  obtain ⟨⟨d1, ρ1⟩, e1, e⟩ := Option.bind_eq_some_iff.mp e
  obtain ⟨⟨d2, ρ2⟩, e2, e⟩ := Option.bind_eq_some_iff.mp e
  obtain ⟨z, e3, e⟩ := Option.bind_eq_some_iff.mp e
  refine ha A σ H ρ d1 ρ1 _ R e1 fun v1 H1 R1 p1 n1 => ?_
  refine hb A σ H1 ρ1 d2 ρ2 _ R1 e2 fun v2 H2 R2 p2 n2 => ?_
  refine ⟨FbS A σ ρ2, d1, d2, _, R2.ftrk, (R1.den p2.stp n1).x, n2.x, e3, fun v H' ex dn => ?_⟩
  cases z with
  | bool x =>
    cases dn
    refine ⟨_, rfl, ?_⟩
    cases x with
    | true =>
      rw [if_pos rfl]
      obtain ⟨⟨d4, ρ4⟩, e4, e⟩ := Option.bind_eq_some_iff.mp e
      obtain ⟨z2, e5, e⟩ := Option.map_eq_some_iff.mp e
      cases e
      refine hc A σ H' ρ2 d4 _ _ (R2.ext ex) e4 fun v4 H4 R4 p4 n4 => ?_
      refine ⟨FbS A σ _, d2, d4, _, R4.ftrk, ((R2.ext ex).den p4.stp (n2.ext ex)).x, n4, e5, fun v H5 ex5 dn => ?_⟩
      exact k v H5 (R4.ext ex5) ((((p1.trans p2).trans (Pe.ext ex)).trans p4).trans (Pe.ext ex5)) dn
    | false =>
      rw [if_neg Bool.false_ne_true]
      cases e
      exact k _ H' (R2.ext ex) ((p1.trans p2).trans (Pe.ext ex)) (.bl false)
  | _ => cases e
end
section
variable {X : Cx} {a b c : Expr} {f g h : EF} {o o' : PyData → PyData → Option PyData} {pos npos : Pos} {i : Nat} {x : Str} {cop cop' : CmpOp} {bf bg : BF} {rest : List Expr}
theorem tv_val (h : EV X a f) (he : ∀ whole, isTrue a X.env whole = (do let v ← whole; standAt a.pos; holding [v] (truthy v)) := by intro _; rfl) : TV X a (bOf f) := let ⟨_, h1, h2⟩ := h; ⟨_, pt_val h1 he, tvR_B h2⟩
theorem tv_cmp (ho : OpS X (compareOp cop) o) (ha : EV X a f) (hb : EX X b g) (hm : behindInMarks cop b = false := by first | exact nomark _ | rfl) : TV X (.Compare a [cop] [b] pos) (bOf (eOp o f g)) := let ⟨_, h1, h2⟩ := ha; let ⟨_, k1, k2⟩ := hb; ⟨_, pt_cmpR ho h1 k1 hm, tvR_test (evR_op h2 k2)⟩
theorem tv_cmpV (i : Nat) (ho : OpS X (compareOp cop) o) (hb : EX X b g) (hm : behindInMarks cop b = false := by first | exact nomark _ | rfl) (hN : X.N[i]? = some x := by rfl) (hv : Vis X.env.scope x := by first | exact Or.inl rfl | exact Or.inr (Or.inl rfl) | exact Or.inr (Or.inr rfl)) (hd : (x == ("__debug__" : Str)) = false := by decide)
    (hcd : (x == ("__classdict__" : Str)) = false := by decide) : TV X (.Compare (.Name x npos) [cop] [b] pos) (bOf (eOpV o i g)) := let ⟨_, k1, k2⟩ := hb; ⟨_, pt_cmpR ho (pe_var hN hv hd hcd) k1 hm, tvR_test (evR_opV k2)⟩
theorem tv_and1 (h : TV X a bf) : TW X (.BoolOp .And [a] pos) bf := let ⟨_, h1, h2⟩ := h; ⟨_, pw_and1 h1, h2⟩
theorem tv_or1 (h : TV X a bf) : TW X (.BoolOp .Or [a] pos) bf := let ⟨_, h1, h2⟩ := h; ⟨_, pw_or1 h1, h2⟩
theorem tv_and (h : TV X a bf) (k : TW X (.BoolOp .And (b :: rest) pos) bg) : TW X (.BoolOp .And (a :: b :: rest) pos) (bAnd bf bg) := let ⟨_, h1, h2⟩ := h; let ⟨_, k1, k2⟩ := k; ⟨_, pw_and h1 k1, tvR_and h2 k2⟩
theorem tv_or (h : TV X a bf) (k : TW X (.BoolOp .Or (b :: rest) pos) bg) : TW X (.BoolOp .Or (a :: b :: rest) pos) (bOr bf bg) := let ⟨_, h1, h2⟩ := h; let ⟨_, k1, k2⟩ := k; ⟨_, pw_or h1 k1, tvR_or h2 k2⟩
theorem TW.tv (h : TW X a bf) : TV X a bf := let ⟨_, h1, h2⟩ := h; ⟨_, h1.pt, h2⟩
theorem tv_not (h : TV X a bf) : TV X (.UnaryOp .Not a pos) (bNot bf) := let ⟨_, h1, h2⟩ := h; ⟨_, pt_not h1, tvR_not h2⟩
theorem ev_one {op} (h : EV X a f) : EV X (.BoolOp op [a] pos) f := let ⟨_, h1, h2⟩ := h; ⟨_, pe_one h1, h2⟩
theorem ev_and (h : EV X a f) (k : EV X (.BoolOp .And (b :: rest) pos) g) : EV X (.BoolOp .And (a :: b :: rest) pos) (eAnd f g) := let ⟨_, h1, h2⟩ := h; let ⟨_, k1, k2⟩ := k; ⟨_, pe_and h1 k1, evR_and h2 k2⟩
theorem ev_or (h : EV X a f) (k : EV X (.BoolOp .Or (b :: rest) pos) g) : EV X (.BoolOp .Or (a :: b :: rest) pos) (eOr f g) := let ⟨_, h1, h2⟩ := h; let ⟨_, k1, k2⟩ := k; ⟨_, pe_or h1 k1, evR_or h2 k2⟩
theorem ev_not (h : EV X a f) : EV X (.UnaryOp .Not a pos) (eNot f) := let ⟨_, h1, h2⟩ := h; ⟨_, pe_not h1, evR_not h2⟩
theorem ev_if (hc : TV X c bf) (ha : EV X a f) (hb : EV X b g) : EV X (.IfExp c a b pos) (eIf bf f g) := let ⟨_, h1, h2⟩ := hc; let ⟨_, k1, k2⟩ := ha; let ⟨_, l1, l2⟩ := hb; ⟨_, pe_ifExp h1 k1 l1, evR_if h2 k2 l2⟩
theorem en_if (hc : TV X c bf) (ha : EN X a f) (hb : EN X b g) : EN X (.IfExp c a b pos) (eIf bf f g) := let ⟨_, h1, h2⟩ := hc; let ⟨_, k1, k2⟩ := ha; let ⟨_, l1, l2⟩ := hb; ⟨_, pe_ifExp h1 k1 l1, enR_if h2 k2 l2⟩
theorem ev_chn (ho : OpS X (compareOp cop) o) (ho' : OpS X (compareOp cop') o') (ha : EV X a f) (hb : EV X b g) (hc : EX X c h) (hm : lastMarks [cop, cop'] [b, c] = false := by with_unfolding_all rfl) :
    EV X (.Compare a [cop, cop'] [b, c] pos) (eChn o o' f g h) := let ⟨_, h1, h2⟩ := ha; let ⟨_, k1, k2⟩ := hb; let ⟨_, l1, l2⟩ := hc; ⟨_, pe_chain ho ho' h1 k1 l1 hm, evR_chn h2 k2 l2⟩
theorem tv_chn (ho : OpS X (compareOp cop) o) (ho' : OpS X (compareOp cop') o') (ha : EV X a f) (hb : EV X b g) (hc : EX X c h) (hm : lastMarks [cop, cop'] [b, c] = false := by with_unfolding_all rfl) :
    TV X (.Compare a [cop, cop'] [b, c] pos) (bOf (eChn o o' f g h)) := let ⟨_, h1, h2⟩ := ha; let ⟨_, k1, k2⟩ := hb; let ⟨_, l1, l2⟩ := hc; ⟨_, pt_chain ho ho' h1 k1 l1 hm, tvR_test (evR_chn h2 k2 l2)⟩
end

/-! ### argument lists, displays -/
def aNil : LF := fun ρ => some ([], ρ)
def aCons (f : EF) (g : LF) : LF := fun ρ => (f ρ).bind fun p => (g p.2).map fun q => (p.1 :: q.1, q.2)
def eTup (g : LF) : EF := fun ρ => (g ρ).bind fun q => if q.1.length ≤ 10000 then some (.tuple q.1, q.2) else none
def eLst (g : LF) : EF := fun ρ => (g ρ).bind fun q => if q.1.length ≤ 10000 then some (.list q.1, q.2) else none
theorem le_line {n : Nat} (h : n ≤ 1000000) : n ≤ sizeLine := by rw [sizeLine_eq]; omega
theorem lt_line {n : Nat} (h : n < 1000000) : n < sizeLine := by rw [sizeLine_eq]; omega
section
variable {P : Program} {w : World} {K : PySem.W.Frag} {ta : TE} {t : TA} {f : EF} {g : LF}
theorem avR_nil : AvR P w K tNil aNil := by
  intro A σ H ρ d ρ' Q R e k
  cases e
  exact k [] H R Pe.refl .nil
theorem avR_cons (ha : EvR P w K ta f) (hb : AvR P w K t g) : AvR P w K (tCons ta t) (aCons f g) := by
  intro A σ H ρ d ρ' Q R e k
  unfold aCons at e
  obtain ⟨⟨d1, ρ1⟩, e1, e⟩ := Option.bind_eq_some_iff.mp e
  obtain ⟨⟨d2, ρ2⟩, e2, e⟩ := Option.map_eq_some_iff.mp e
  cases e
  refine ha A σ H ρ d1 ρ1 _ R e1 fun v1 H1 R1 p1 n1 => ?_
  refine hb A σ H1 ρ1 d2 ρ2 _ R1 e2 fun v2 H2 R2 p2 n2 => ?_
  exact k _ H2 R2 (p1.trans p2) (.cons (R1.den p2.stp n1) n2)
theorem back {σ : L2.St} {H H' : Hp} {ρ ρ' : Rho} {a : Addr} (p : Pe σ H ρ H' ρ') (n : H' a = none) : H a = none := by
  cases q : H a with
  | none => rfl
  | some o =>
    obtain ⟨o', q'⟩ := p.there a o q
    rw [n] at q'
    cases q'
theorem denAll_new {H H' : Hp} {F : Fb} {a : Addr} {vs : List V} {ds : List PyData} (ex : Ext H H') (hn : H a = none) (h : DenAll P w K H F vs ds) : DenAll P w K H' (fun x => F x ∨ x = a) vs ds :=
  h.step (fun x u q _ => ex x u q) fun x u q n z => z.elim n fun z => by rw [z, hn] at q; cases q
theorem nF {A : Fb} {σ : L2.St} {H : Hp} {ρ : Rho} {a : Addr} (R : RS P w K A σ H ρ) (n : H a = none) : ¬ FbS A σ ρ a := fun z => by
  obtain ⟨o, q⟩ := R.ftrk a z
  rw [n] at q
  cases q
theorem evR_tup (ha : AvR P w K t g) : EvR P w K (tTup t) (eTup g) := by
  intro A σ H ρ d ρ' Q R e k
  unfold eTup at e
  obtain ⟨⟨d1, ρ1⟩, e1, e⟩ := Option.bind_eq_some_iff.mp e
  split at e
  · rename_i hl
    cases e
    refine ha A σ H ρ d1 _ _ R e1 fun v1 H1 R1 p1 n1 => ?_
    refine ⟨by rw [n1.length]; exact le_line (Nat.le_trans hl (by decide)), fun p np => ?_⟩
    have ex : Ext H1 (upd H1 p (.tup v1)) := ext_new np
    exact k _ _ (R1.ext ex) (p1.trans (Pe.ext ex)) (.tup (nF R1 np) (.inl upd_same) (n1.ext ex))
  · cases e
theorem enR_lst (ha : AvR P w K t g) : EnR P w K (tLst t) (eLst g) := by
  intro A σ H ρ d ρ' Q R e k
  unfold eLst at e
  obtain ⟨⟨d1, ρ1⟩, e1, e⟩ := Option.bind_eq_some_iff.mp e
  split at e
  · rename_i hl
    cases e
    refine ha A σ H ρ d1 _ _ R e1 fun v1 H1 R1 p1 n1 => ?_
    refine ⟨by rw [n1.length]; exact le_line (Nat.le_trans hl (by decide)), fun p np => ?_⟩
    have ex : Ext H1 (upd H1 p (.lst v1)) := ext_new np
    exact k _ _ (R1.fresh ex np ⟨_, upd_same⟩) (p1.trans (Pe.ext ex)) (back p1 np) (.lst upd_same ((denAll_new ex np n1).mono fbsub))
  · cases e
end
section
variable {X : Cx} {e : Expr} {es : List Expr} {f : EF} {g : LF} {pos : Pos} {j : Nat}
theorem av_nil : AV X [] aNil := ⟨_, pa_nil, avR_nil⟩
theorem av_cons (h : EV X e f) (k : AV X es g) (hs : starEach (e :: es) X.env = (false, eval e X.env) :: starEach es X.env := by rfl) : AV X (e :: es) (aCons f g) := let ⟨_, h1, h2⟩ := h; let ⟨_, k1, k2⟩ := k; ⟨_, pa_cons h1 k1 hs, avR_cons h2 k2⟩
theorem ev_tup (h : AV X es g) : EV X (.Tuple es j pos) (eTup g) := let ⟨_, h1, h2⟩ := h; ⟨_, pe_tup h1, evR_tup h2⟩
theorem en_lst (h : AV X es g) : EN X (.List es pos) (eLst g) := let ⟨_, h1, h2⟩ := h; ⟨_, pe_lst h1, enR_lst h2⟩
end
end EV
namespace EV
open PySem PySem.Spec PyProof.Rows L2

/-! ### values to be stored -/
abbrev NF := Rho → Option (Slot × Rho)
def nE (f : EF) : NF := fun ρ => (f ρ).map fun p => (.sh p.1, p.2)
def nN (f : EF) : NF := fun ρ => (f ρ).map fun p => (.ow p.1, p.2)
/-- storing s (the value v) leads from the protection B to A -/
def SlotVal (P : Program) (w : World) (K : PySem.W.Frag) (B : Fb) (F : Fb) (H : Hp) (v : V) (A : Fb) : Slot → Prop
  | .un => False
  | .sh d => B = A ∧ Den P w K H F v d
  | .ow d => ∃ a, v = .ref a ∧ B = A.add a ∧ ¬ A a ∧ Own P w K H F a d
structure NPost (P : Program) (w : World) (K : PySem.W.Frag) (A : Fb) (σ : L2.St) (H : Hp) (ρ : Rho) (H' : Hp) (ρ' : Rho) (v : V) (s : Slot) (B : Fb) : Prop where
  rs : RS P w K B σ H' ρ'
  pe : Pe σ H ρ H' ρ'
  val : SlotVal P w K B (FbS B σ ρ') H' v A s
  new : ∀ x, B x → A x ∨ H x = none
def NvR (P : Program) (w : World) (K : PySem.W.Frag) (t : TE) (f : NF) : Prop := ∀ (A : Fb) (σ : L2.St) (H : Hp) (ρ : Rho) (s : Slot) (ρ' : Rho) (Q : VK), RS P w K A σ H ρ → f ρ = some (s, ρ') →
  (∀ v H' B, NPost P w K A σ H ρ H' ρ' v s B → Q v H') → t σ H Q
def NV (X : Cx) (e : Expr) (f : NF) : Prop := ∃ t, PE X e t ∧ NvR X.prog X.w X.K t f
section
variable {P : Program} {w : World} {K : PySem.W.Frag} {A B : Fb} {σ : L2.St} {H H' : Hp} {ρ ρ' : Rho} {t : TE} {f : EF} {v : V} {s : Slot} {i : Nat}
theorem nvR_e (h : EvR P w K t f) : NvR P w K t (nE f) := by
  intro A σ H ρ s ρ' Q R e k
  obtain ⟨⟨d1, ρ1⟩, e1, e⟩ := Option.map_eq_some_iff.mp e
  cases e
  exact h A σ H ρ d1 _ _ R e1 fun v H' R' p n => k v H' A ⟨R', p, ⟨rfl, n⟩, fun x z => .inl z⟩
theorem nvR_n (h : EnR P w K t f) : NvR P w K t (nN f) := by
  intro A σ H ρ s ρ' Q R e k
  obtain ⟨⟨d1, ρ1⟩, e1, e⟩ := Option.map_eq_some_iff.mp e
  cases e
  exact h A σ H ρ d1 _ _ R e1 fun a H' R' p nn n => k _ H' (A.add a) ⟨R', p, ⟨a, rfl, rfl, (fun z => by
    obtain ⟨o, q⟩ := R.trk a z
    rw [nn] at q
    cases q), n⟩, fun x z => z.elim .inl fun z => .inr (by rw [z]; exact nn)⟩
theorem RS.stored (R : RS P w K B σ H ρ) (h : SlotVal P w K B (FbS B σ ρ) H v A s) : RS P w K A (σ.set i (some v)) H (ρ.set i s) ∧ ∀ x, FbS A (σ.set i (some v)) (ρ.set i s) x → FbS B σ ρ x := by
  cases s with
  | un => exact h.elim
  | sh d =>
    obtain ⟨rfl, h⟩ := h
    exact ⟨R.store h, fun x => fbs_sh⟩
  | ow d =>
    obtain ⟨a, rfl, rfl, hA, h⟩ := h
    exact ⟨R.storeOw hA h, fun x => fbs_ow⟩
theorem SlotVal.step {F F' : Fb} (h : SlotVal P w K B F H v A s) (k : ∀ a o, H a = some o → ¬ F a → H' a = some o) (f : ∀ a o, H a = some o → ¬ F a → ¬ F' a) (kb : ∀ a o, B a → H a = some o → H' a = some o) : SlotVal P w K B F' H' v A s := by
  cases s with
  | un => exact h.elim
  | sh d => exact ⟨h.1, h.2.step k f⟩
  | ow d =>
    obtain ⟨a, e, rfl, hA, h⟩ := h
    exact ⟨a, e, rfl, hA, h.step k f fun o q => kb a o (.inr rfl) q⟩
theorem stp_of {σ' : L2.St} {ρ'' : Rho} (R : RS P w K A σ H ρ) (p : Pe σ H ρ H' ρ') (new : ∀ x, B x → A x ∨ H x = none) (hA : ∀ x, FbS A σ' ρ'' x → FbS B σ ρ' x) (hR : ∀ x, A x → ¬ Rt σ' ρ'' x) : Stp (Rt σ ρ) (Rt σ' ρ'') H H' :=
  ⟨p.keep, p.there, fun x z => (hA x (.inr z)).elim (fun q => (new x q).elim (fun q => absurd z (hR x q)) .inr) fun q => .inl (p.sub x q)⟩
theorem RS.noroot (R : RS P w K A σ H ρ) : ∀ x, A x → ¬ Rt σ ρ x := fun x h ⟨i, d, h1, h2⟩ => by
  obtain ⟨b, e1, e2, _⟩ := R.ow i d h1
  rw [h2] at e1
  cases e1
  exact e2 h
end
theorem nv_e {X : Cx} {e : Expr} {f : EF} (h : EV X e f) : NV X e (nE f) := let ⟨_, h1, h2⟩ := h; ⟨_, h1, nvR_e h2⟩
theorem nv_n {X : Cx} {e : Expr} {f : EF} (h : EN X e f) : NV X e (nN f) := let ⟨_, h1, h2⟩ := h; ⟨_, h1, nvR_n h2⟩

/-! ### the end of a statement -/
section
variable {P : Program} {w : World} {K : PySem.W.Frag} {A : Fb} {J : List Nat} {σ σ1 : L2.St} {H H1 : Hp} {ρ ρ1 ρ' : Rho} {D : Ends} {fl : Fl}
theorem Agr.refl : Agr J σ σ := fun _ _ => rfl
theorem Agr.trans {σ2 : L2.St} (a : Agr J σ σ1) (b : Agr J σ1 σ2) : Agr J σ σ2 := fun j h => (b j h).trans (a j h)
theorem Agr.set {i : Nat} {x : Option V} (h : J.contains i = false) : Agr J σ (σ.set i x) := fun j hj => by
  rw [List.getElem?_set_ne]
  rintro rfl
  rw [List.contains_iff_mem.mpr hj] at h
  cases h
theorem PostS.shift (h : PostS P w K A J σ H ρ ρ' D fl) (st : Stp (Rt σ ρ) (Rt σ1 ρ1) H H1) (ag : Agr J σ σ1) : PostS P w K A J σ1 H1 ρ1 ρ' D fl := by
  cases fl with
  | nx => exact fun σ' H' R s a => h σ' H' R (st.trans s) (ag.trans a)
  | bk => exact fun σ' H' R s a => h σ' H' R (st.trans s) (ag.trans a)
  | ct => exact fun σ' H' R s a => h σ' H' R (st.trans s) (ag.trans a)
  | rt d => exact fun σ' v H' R s a n => h σ' v H' R (st.trans s) (ag.trans a) n
end

/-! ### statements -/
def sNx : SF := fun ρ => some (.nx, ρ)
def sBk : SF := fun ρ => some (.bk, ρ)
def sCt : SF := fun ρ => some (.ct, ρ)
def sSeq (s t : SF) : SF := fun ρ => (s ρ).bind fun p => match p.1 with
  | .nx => t p.2
  | f => some (f, p.2)
def sExp (f : EF) : SF := fun ρ => (f ρ).map fun p => (.nx, p.2)
def sRet (f : EF) : SF := fun ρ => (f ρ).map fun p => (.rt p.1, p.2)
def sRetN : SF := fun ρ => some (.rt .none, ρ)
def sIf (c : BF) (s t : SF) : SF := fun ρ => (c ρ).bind fun p => if p.1 = true then s p.2 else t p.2
def sSet (i : Nat) (f : NF) : SF := fun ρ => (f ρ).map fun p => (.nx, p.2.set i p.1)
def sPar (i j : Nat) (f g : NF) : SF := fun ρ => (f ρ).bind fun p => (g p.2).map fun q => (.nx, (q.2.set j q.1).set i p.1)
def sPar3 (i j l : Nat) (f g h : NF) : SF := fun ρ => (f ρ).bind fun p => (g p.2).bind fun q => (h q.2).map fun r => (.nx, ((r.2.set l r.1).set j q.1).set i p.1)
/-- a target -/
abbrev GF := PyData → Rho → Option Rho
abbrev GFs := List PyData → Rho → Option Rho
def gN (i : Nat) : GF := fun d ρ => some (ρ.set i (.sh d))
def gsNil : GFs := fun ds ρ => match ds with
  | [] => some ρ
  | _ => none
def gsCons (g : GF) (t : GFs) : GFs := fun ds ρ => match ds with
  | d :: ds => (g d ρ).bind (t ds)
  | [] => none
def gT (n : Nat) (t : GFs) : GF := fun d ρ => match d with
  | .tuple ds => if ds.length = n then t ds ρ else none
  | _ => none
def sAsg (f : EF) (g : GF) : SF := fun ρ => (f ρ).bind fun p => (g p.1 p.2).map fun ρ' => (.nx, ρ')
def forF (g : GF) (body : SF) : List PyData → Rho → Option (Fl × Rho)
  | [], ρ => some (.nx, ρ)
  | d :: ds, ρ => (g d ρ).bind fun ρ1 => (body ρ1).bind fun p => match p.1 with
    | .nx => forF g body ds p.2
    | .ct => forF g body ds p.2
    | .bk => some (.nx, p.2)
    | .rt r => some (.rt r, p.2)
def sFor (src : LF) (g : GF) (body : SF) : SF := fun ρ => (src ρ).bind fun p => forF g body p.1 p.2
def whileF (c : BF) (body : SF) : Nat → Rho → Option (Fl × Rho)
  | 0, _ => none
  | n + 1, ρ => (c ρ).bind fun p => if p.1 = true then (body p.2).bind fun q => (match q.1 with
      | .nx => whileF c body n q.2
      | .ct => whileF c body n q.2
      | .bk => some (.nx, q.2)
      | .rt r => some (.rt r, q.2)) else some (.nx, p.2)
def sWhile (n : Nat) (c : BF) (body : SF) : SF := fun ρ => whileF c body n ρ
section
variable (P : Program) (w : World) (K : PySem.W.Frag) (J : List Nat)
def GvR (g : TG) (f : GF) : Prop := ∀ (A : Fb) (σ : L2.St) (H : Hp) (ρ : Rho) (v : V) (d : PyData) (ρ' : Rho) (Q : L2.St → Hp → Prop), RS P w K A σ H ρ → Den P w K H (FbS A σ ρ) v d → f d ρ = some ρ' →
  (∀ σ' H', RS P w K A σ' H' ρ' → Stp (Rt σ ρ) (Rt σ' ρ') H H' → Agr J σ σ' → Q σ' H') → g v σ H Q
def GsR (g : TGs) (f : GFs) : Prop := ∀ (A : Fb) (σ : L2.St) (H : Hp) (ρ : Rho) (vs : List V) (ds : List PyData) (ρ' : Rho) (Q : L2.St → Hp → Prop), RS P w K A σ H ρ → DenAll P w K H (FbS A σ ρ) vs ds → f ds ρ = some ρ' →
  (∀ σ' H', RS P w K A σ' H' ρ' → Stp (Rt σ ρ) (Rt σ' ρ') H H' → Agr J σ σ' → Q σ' H') → g vs σ H Q
/-- what is walked -/
def Wk (It : L2.It) (ds : List PyData) (H : Hp) (F : Fb) : Prop := ∀ (H2 : Hp) (F2 : Fb), (∀ a o, H a = some o → ¬ F a → H2 a = some o) → (∀ a o, H a = some o → ¬ F a → ¬ F2 a) → (∀ a, F2 a → ∃ o, H2 a = some o) → ∀ i : Nat,
  (∀ d, ds[i]? = some d → It.go i H2 ∧ ∀ x H3, It.yld i H2 x H3 → Ext H2 H3 ∧ Den P w K H3 F2 x d) ∧ (ds.length ≤ i → It.stop i H2)
def IvR (wi : TI) (src : LF) : Prop := ∀ (A : Fb) (σ : L2.St) (H : Hp) (ρ : Rho) (ds : List PyData) (ρ' : Rho) (R : L2.It → Hp → Prop), RS P w K A σ H ρ → src ρ = some (ds, ρ') →
  (∀ I H', RS P w K A σ H' ρ' → Pe σ H ρ H' ρ' → Wk P w K I ds H' (FbS A σ ρ') → R I H') → wi σ H R
end
def GV (X : Cx) (J : List Nat) (e : Expr) (f : GF) : Prop := ∃ t, PG X e t ∧ GvR X.prog X.w X.K J t f
def GVs (X : Cx) (J : List Nat) (e : List Expr) (f : GFs) : Prop := ∃ t, PGs X e t ∧ GsR X.prog X.w X.K J t f
def IV (X : Cx) (tg e : Expr) (f : LF) : Prop := ∃ t, PI X tg e t ∧ IvR X.prog X.w X.K t f
section
variable {P : Program} {w : World} {K : PySem.W.Frag} {J : List Nat} {te ta tb tc' : TE} {tc : TT} {t u : TS} {f : EF} {c : BF} {s s' : SF} {g : TG} {gf : GF} {nf ng nh : NF} {i j l : Nat}
theorem svR_nx : SvR P w K J tNext sNx := fun A σ H ρ fl ρ' D R e k => by
  cases e
  exact k σ H R (Stp.refl _ _) Agr.refl
theorem svR_bk : SvR P w K J tBreak sBk := fun A σ H ρ fl ρ' D R e k => by
  cases e
  exact k σ H R (Stp.refl _ _) Agr.refl
theorem svR_ct : SvR P w K J tCont sCt := fun A σ H ρ fl ρ' D R e k => by
  cases e
  exact k σ H R (Stp.refl _ _) Agr.refl
theorem svR_seq (h1 : SvR P w K J t s) (h2 : SvR P w K J u s') : SvR P w K J (tSeq t u) (sSeq s s') := fun A σ H ρ fl ρ' D R e k => by
  unfold sSeq at e
  obtain ⟨⟨f1, ρ1⟩, e1, e⟩ := Option.bind_eq_some_iff.mp e
  refine h1 A σ H ρ f1 ρ1 { D with nx := u D } R e1 ?_
  cases f1 with
  | nx => exact fun σ' H' R' st ag => h2 A σ' H' ρ1 fl ρ' D R' e (k.shift st ag)
  | bk => cases e; exact k
  | ct => cases e; exact k
  | rt d => cases e; exact k
theorem svR_exp (h : EvR P w K te f) : SvR P w K J (tDrop te) (sExp f) := fun A σ H ρ fl ρ' D R e k => by
  obtain ⟨⟨d1, ρ1⟩, e1, e⟩ := Option.map_eq_some_iff.mp e
  cases e
  exact h A σ H ρ d1 _ _ R e1 fun v H' R' p n => k σ H' R' p.stp Agr.refl
theorem svR_ret (h : EvR P w K te f) : SvR P w K J (tRet te) (sRet f) := fun A σ H ρ fl ρ' D R e k => by
  obtain ⟨⟨d1, ρ1⟩, e1, e⟩ := Option.map_eq_some_iff.mp e
  cases e
  exact h A σ H ρ d1 _ _ R e1 fun v H' R' p n => k σ v H' R' p.stp Agr.refl n
theorem svR_retN : SvR P w K J tRetN sRetN := fun A σ H ρ fl ρ' D R e k => by
  cases e
  exact k σ .non H R (Stp.refl _ _) Agr.refl .non
theorem svR_if (hc : TvR P w K tc c) (h1 : SvR P w K J t s) (h2 : SvR P w K J u s') : SvR P w K J (tIfS tc t u) (sIf c s s') := fun A σ H ρ fl ρ' D R e k => by
  unfold sIf at e
  obtain ⟨⟨d1, ρ1⟩, e1, e⟩ := Option.bind_eq_some_iff.mp e
  refine hc A σ H ρ _ _ _ R e1 fun H1 R1 p1 => ?_
  cases d1 with
  | true =>
    rw [if_pos rfl]
    exact h1 A σ H1 ρ1 fl ρ' D R1 e (k.shift p1.stp Agr.refl)
  | false =>
    rw [if_neg Bool.false_ne_true]
    exact h2 A σ H1 ρ1 fl ρ' D R1 e (k.shift p1.stp Agr.refl)
theorem svR_set (h : NvR P w K te nf) (hJ : J.contains i = false) : SvR P w K J (tAsg te (gName i)) (sSet i nf) := fun A σ H ρ fl ρ' D R e k => by
  obtain ⟨⟨s1, ρ1⟩, e1, e⟩ := Option.map_eq_some_iff.mp e
  cases e
  refine h A σ H ρ s1 ρ1 _ R e1 fun v H' B n => ?_
  obtain ⟨R', sub⟩ := n.rs.stored n.val (i := i)
  exact k _ H' R' (stp_of R n.pe n.new sub R'.noroot) (Agr.set hJ)
theorem svR_par (h1 : NvR P w K ta nf) (h2 : NvR P w K tb ng) (hij : i ≠ j) (hJ : J.contains i = false) (hJ2 : J.contains j = false) : SvR P w K J (tPar i j (tCons ta (tCons tb tNil))) (sPar i j nf ng) := fun A σ H ρ fl ρ' D R e k => by
  unfold sPar at e
  obtain ⟨⟨s1, ρ1⟩, e1, e⟩ := Option.bind_eq_some_iff.mp e
  obtain ⟨⟨s2, ρ2⟩, e2, e⟩ := Option.map_eq_some_iff.mp e
  cases e
  refine h1 A σ H ρ s1 ρ1 _ R e1 fun v1 H1 B1 n1 => ?_
  refine h2 B1 σ H1 ρ1 s2 ρ2 _ n1.rs e2 fun v2 H2 B2 n2 => ⟨v1, v2, rfl, ?_⟩
  have w1 : SlotVal P w K B1 (FbS B2 σ ρ2) H2 v1 A s1 := n1.val.step (fun a o q n => n2.pe.keep a o q fun z => n (.inr z)) (fun a o q n z => z.elim (fun z => (n2.new a z).elim (fun z => n (.inl z)) fun z => by rw [q] at z; cases z) fun z => n (.inr (n2.pe.sub a z)))
    (fun a o z q => n2.pe.keep a o q (n1.rs.noroot a z))
  obtain ⟨R2, sub2⟩ := n2.rs.stored n2.val (i := j)
  obtain ⟨R3, sub3⟩ := R2.stored (w1.step (fun _ _ q _ => q) (fun x _ _ n z => n (sub2 x z)) fun _ _ _ q => q) (i := i)
  have e3 : (σ.set i (some v1)).set j (some v2) = (σ.set j (some v2)).set i (some v1) := List.set_comm _ _ hij
  rw [e3]
  refine k _ H2 R3 (stp_of R (n1.pe.trans n2.pe) (fun x z => (n2.new x z).elim (fun z => n1.new x z) fun z => .inr (back n1.pe z)) (fun x z => sub2 x (sub3 x z)) R3.noroot) ((Agr.set hJ2).trans (Agr.set hJ))
theorem svR_par3 {tc : TE} (h1 : NvR P w K ta nf) (h2 : NvR P w K tb ng) (h3 : NvR P w K tc nh) (hij : i ≠ j) (hil : i ≠ l) (hjl : j ≠ l) (hJ : J.contains i = false) (hJ2 : J.contains j = false) (hJ3 : J.contains l = false) :
    SvR P w K J (tPar3 i j l (tCons ta (tCons tb (tCons tc tNil)))) (sPar3 i j l nf ng nh) := fun A σ H ρ fl ρ' D R e k => by
  unfold sPar3 at e
  obtain ⟨⟨s1, ρ1⟩, e1, e⟩ := Option.bind_eq_some_iff.mp e
  obtain ⟨⟨s2, ρ2⟩, e2, e⟩ := Option.bind_eq_some_iff.mp e
  obtain ⟨⟨s3, ρ3⟩, e3, e⟩ := Option.map_eq_some_iff.mp e
  cases e
  refine h1 A σ H ρ s1 ρ1 _ R e1 fun v1 H1 B1 n1 => ?_
  refine h2 B1 σ H1 ρ1 s2 ρ2 _ n1.rs e2 fun v2 H2 B2 n2 => ?_
  refine h3 B2 σ H2 ρ2 s3 ρ3 _ n2.rs e3 fun v3 H3 B3 n3 => ⟨v1, v2, v3, rfl, ?_⟩
  have w1 : SlotVal P w K B1 (FbS B2 σ ρ2) H2 v1 A s1 := n1.val.step (fun a o q n => n2.pe.keep a o q fun z => n (.inr z)) (fun a o q n z => z.elim (fun z => (n2.new a z).elim (fun z => n (.inl z)) fun z => by rw [q] at z; cases z) fun z => n (.inr (n2.pe.sub a z)))
    (fun a o z q => n2.pe.keep a o q (n1.rs.noroot a z))
  have up : ∀ x, B1 x → B2 x := fun x z => by
    cases s2 with
    | un => exact n2.val.elim
    | sh d => rw [n2.val.1]; exact z
    | ow d =>
      obtain ⟨a, _, e, _⟩ := n2.val
      rw [e]
      exact .inl z
  have w1' : SlotVal P w K B1 (FbS B3 σ ρ3) H3 v1 A s1 := w1.step (fun a o q n => n3.pe.keep a o q fun z => n (.inr z)) (fun a o q n z => z.elim (fun z => (n3.new a z).elim (fun z => n (.inl z)) fun z => by rw [q] at z; cases z) fun z => n (.inr (n3.pe.sub a z)))
    (fun a o z q => n3.pe.keep a o q (n2.rs.noroot a (up a z)))
  have w2 : SlotVal P w K B2 (FbS B3 σ ρ3) H3 v2 B1 s2 := n2.val.step (fun a o q n => n3.pe.keep a o q fun z => n (.inr z)) (fun a o q n z => z.elim (fun z => (n3.new a z).elim (fun z => n (.inl z)) fun z => by rw [q] at z; cases z) fun z => n (.inr (n3.pe.sub a z)))
    (fun a o z q => n3.pe.keep a o q (n2.rs.noroot a z))
  obtain ⟨R3, sub3⟩ := n3.rs.stored n3.val (i := l)
  obtain ⟨R2, sub2⟩ := R3.stored (w2.step (fun _ _ q _ => q) (fun x _ _ n z => n (sub3 x z)) fun _ _ _ q => q) (i := j)
  obtain ⟨R1, sub1⟩ := R2.stored (w1'.step (fun _ _ q _ => q) (fun x _ _ n z => n (sub3 x (sub2 x z))) fun _ _ _ q => q) (i := i)
  have e4 : (((σ.set i (some v1)).set j (some v2)).set l (some v3)) = ((σ.set l (some v3)).set j (some v2)).set i (some v1) := by
    rw [List.set_comm _ _ hij, List.set_comm _ _ hil, List.set_comm _ _ hjl]
  rw [e4]
  exact k _ H3 R1 (stp_of R ((n1.pe.trans n2.pe).trans n3.pe) (fun x z => (n3.new x z).elim (fun z => (n2.new x z).elim (fun z => n1.new x z) fun z => .inr (back n1.pe z)) fun z => .inr (back (n1.pe.trans n2.pe) z)) (fun x z => sub3 x (sub2 x (sub1 x z))) R1.noroot)
    (((Agr.set hJ3).trans (Agr.set hJ2)).trans (Agr.set hJ))
theorem gvR_n (hJ : J.contains i = false) : GvR P w K J (gName i) (gN i) := fun A σ H ρ v d ρ' Q R n e k => by
  cases e
  exact k _ H (R.store n) ⟨fun _ _ h _ => h, fun _ o h => ⟨o, h⟩, fun x z => .inl (rt_sh z)⟩ (Agr.set hJ)
theorem gsR_nil : GsR P w K J gNil gsNil := fun A σ H ρ vs ds ρ' Q R n e k => by
  cases n with
  | nil =>
    cases e
    exact ⟨rfl, k σ H R (Stp.refl _ _) Agr.refl⟩
  | cons _ _ => cases e
theorem gsR_cons {ts : TGs} {fs : GFs} (h1 : GvR P w K J g gf) (h2 : GsR P w K J ts fs) : GsR P w K J (gCons g ts) (gsCons gf fs) := fun A σ H ρ vs ds ρ' Q R dn e k => by
  cases dn with
  | nil => cases e
  | @cons v d vs ds d1 d2 =>
    obtain ⟨ρ1, e1, e2⟩ := Option.bind_eq_some_iff.mp e
    refine ⟨v, vs, rfl, h1 A σ H ρ v d ρ1 _ R d1 e1 fun σ1 H1 R1 st1 ag1 => ?_⟩
    exact h2 A σ1 H1 ρ1 vs ds ρ' Q R1 (R.denAll st1 d2) e2 fun σ2 H2 R2 st2 ag2 => k σ2 H2 R2 (st1.trans st2) (ag1.trans ag2)
theorem gvR_t {ts : TGs} {fs : GFs} {n : Nat} (h : GsR P w K J ts fs) : GvR P w K J (gTup K n ts) (gT n fs) := fun A σ H ρ v d ρ' Q R dn e k => by
  unfold gT at e
  split at e
  · split at e
    · rename_i hl
      obtain ⟨a, xs, rfl, hq, hd⟩ := dn.x.tupl
      -- the items lie off F: a tuple's items by its own denotation
      cases dn with
      | tup nf r t => exact ⟨_, _, rfl, .inl r, by rw [t.length]; exact hl, h A σ H ρ _ _ ρ' Q R t e k⟩
      | ktup q t => exact ⟨_, _, rfl, .inr q, by rw [t.length]; exact hl, h A σ H ρ _ _ ρ' Q R t e k⟩
    · cases e
  · cases e
theorem svR_asg (h1 : EvR P w K te f) (h2 : GvR P w K J g gf) : SvR P w K J (tAsg te g) (sAsg f gf) := fun A σ H ρ fl ρ' D R e k => by
  unfold sAsg at e
  obtain ⟨⟨d1, ρ1⟩, e1, e⟩ := Option.bind_eq_some_iff.mp e
  obtain ⟨ρ2, e2, e⟩ := Option.map_eq_some_iff.mp e
  cases e
  exact h1 A σ H ρ d1 ρ1 _ R e1 fun v H1 R1 p1 n1 => h2 A σ H1 ρ1 v d1 _ _ R1 n1 e2 fun σ2 H2 R2 st ag => k σ2 H2 R2 (p1.stp.trans st) ag
theorem svR_for {wi : TI} {src : LF} (hi : IvR P w K wi src) (hg : GvR P w K J g gf) (hb : SvR P w K J t s) : SvR P w K J (tFor wi g t) (sFor src gf s) := fun A σ H ρ fl ρ' D R e k => by
  unfold sFor at e
  obtain ⟨⟨ds, ρ1⟩, e1, e⟩ := Option.bind_eq_some_iff.mp e
  refine hi A σ H ρ ds ρ1 _ R e1 fun I H1 R1 p1 wk => ?_
  refine ⟨fun i m σc Hc => m + i = ds.length ∧ ∃ ρc, RS P w K A σc Hc ρc ∧ Stp (Rt σ ρ1) (Rt σc ρc) H1 Hc ∧ Agr J σ σc ∧ forF gf s (ds.drop i) ρc = some (fl, ρ'), ⟨ds.length, rfl, ρ1, R1, Stp.refl _ _, Agr.refl, e⟩, ?_⟩
  rintro i m σc Hc ⟨hm, ρc, Rc, stc, agc, ec⟩
  obtain ⟨wgo, wstop⟩ := wk Hc (FbS A σc ρc) (fun a o q n => stc.keep a o q fun z => n (.inr z)) (fun a o q n z => z.elim (fun z => n (.inl z)) fun z => (stc.roots a z).elim (fun z => n (.inr z)) fun z => by rw [q] at z; cases z) Rc.ftrk i
  by_cases hi : i < ds.length
  · refine .inr ?_
    have hd : ds[i]? = some ds[i] := List.getElem?_eq_getElem hi
    obtain ⟨go, yl⟩ := wgo _ hd
    refine ⟨go, fun σ' H' => ∃ m', m' < m ∧ m' + (i + 1) = ds.length ∧ ∃ ρc, RS P w K A σ' H' ρc ∧ Stp (Rt σ ρ1) (Rt σ' ρc) H1 H' ∧ Agr J σ σ' ∧ forF gf s (ds.drop (i + 1)) ρc = some (fl, ρ'), fun σ' H' ⟨m', h1, h2⟩ => ⟨m', h1, h2⟩, fun x H3 hy => ?_⟩
    obtain ⟨ex, dx⟩ := yl x H3 hy
    rw [List.drop_eq_getElem_cons hi] at ec
    unfold forF at ec
    obtain ⟨ρt, et, ec⟩ := Option.bind_eq_some_iff.mp ec
    obtain ⟨⟨fb, ρb⟩, eb, ec⟩ := Option.bind_eq_some_iff.mp ec
    refine hg A σc H3 ρc x _ ρt _ (Rc.ext ex) dx et fun σt Ht Rt' stt agt => ?_
    have st3 : Stp (Rt σ ρ1) (Rt σt ρt) H1 Ht := (stc.trans (Stp.ext ex)).trans stt
    refine hb A σt Ht ρt fb ρb _ Rt' eb ?_
    cases fb with
    | nx => exact fun σ' H' R' st ag => ⟨m - 1, by omega, by omega, ρb, R', st3.trans st, (agc.trans agt).trans ag, ec⟩
    | ct => exact fun σ' H' R' st ag => ⟨m - 1, by omega, by omega, ρb, R', st3.trans st, (agc.trans agt).trans ag, ec⟩
    | bk =>
      cases ec
      exact fun σ' H' R' st ag => k σ' H' R' (p1.stp.trans (st3.trans st)) ((agc.trans agt).trans ag)
    | rt r =>
      cases ec
      exact fun σ' v H' R' st ag n => k σ' v H' R' (p1.stp.trans (st3.trans st)) ((agc.trans agt).trans ag) n
  · refine .inl ⟨wstop (Nat.le_of_not_lt hi), ?_⟩
    rw [List.drop_eq_nil_of_le (Nat.le_of_not_lt hi)] at ec
    cases ec
    exact k σc Hc Rc (p1.stp.trans stc) agc
theorem svR_while {n : Nat} (hc : TvR P w K tc c) (hb : SvR P w K J t s) : SvR P w K J (tWhile tc t) (sWhile n c s) := fun A σ H ρ fl ρ' D R e k => by
  unfold sWhile at e
  refine ⟨fun m σc Hc => ∃ ρc, RS P w K A σc Hc ρc ∧ Stp (Rt σ ρ) (Rt σc ρc) H Hc ∧ Agr J σ σc ∧ whileF c s m ρc = some (fl, ρ'), ⟨n, ρ, R, Stp.refl _ _, Agr.refl, e⟩, ?_⟩
  rintro m σc Hc ⟨ρc, Rc, stc, agc, ec⟩
  cases m with
  | zero => cases ec
  | succ m =>
    unfold whileF at ec
    obtain ⟨⟨d1, ρ1⟩, e1, ec⟩ := Option.bind_eq_some_iff.mp ec
    refine hc A σc Hc ρc d1 ρ1 _ Rc e1 fun H1 R1 p1 => ?_
    cases d1 with
    | true =>
      rw [if_pos rfl] at ec ⊢
      obtain ⟨⟨fb, ρb⟩, eb, ec⟩ := Option.bind_eq_some_iff.mp ec
      refine ⟨fun σ' H' => ∃ ρc, RS P w K A σ' H' ρc ∧ Stp (Rt σ ρ) (Rt σ' ρc) H H' ∧ Agr J σ σ' ∧ whileF c s m ρc = some (fl, ρ'), fun σ' H' q => ⟨m, Nat.lt_succ_self m, q⟩, ?_⟩
      have st3 : Stp (Rt σ ρ) (Rt σc ρ1) H H1 := stc.trans p1.stp
      refine hb A σc H1 ρ1 fb ρb _ R1 eb ?_
      cases fb with
      | nx => exact fun σ' H' R' st ag => ⟨ρb, R', st3.trans st, agc.trans ag, ec⟩
      | ct => exact fun σ' H' R' st ag => ⟨ρb, R', st3.trans st, agc.trans ag, ec⟩
      | bk =>
        cases ec
        exact fun σ' H' R' st ag => k σ' H' R' (st3.trans st) (agc.trans ag)
      | rt r =>
        cases ec
        exact fun σ' v H' R' st ag n => k σ' v H' R' (st3.trans st) (agc.trans ag) n
    | false =>
      rw [if_neg Bool.false_ne_true] at ec ⊢
      cases ec
      exact k σc H1 R1 (stc.trans p1.stp) agc
end
section
variable {X : Cx} {J : List Nat} {e a b c tg iter : Expr} {es : List Expr} {f g h : EF} {bf : BF} {st : Stmt} {sts sts2 body : List Stmt} {s s' : SF} {gf : GF} {gfs : GFs} {nf ng nh : NF} {pos px py pz pt pt2 : Pos} {i j l k k2 : Nat} {x y z : Str} {src : LF}
theorem sv_nil : SVs X J [] sNx := ⟨_, pss_nil, svR_nx⟩
theorem sv_cons (h1 : SV X J st s) (h2 : SVs X J sts s') : SVs X J (st :: sts) (sSeq s s') := let ⟨_, a1, a2⟩ := h1; let ⟨_, b1, b2⟩ := h2; ⟨_, pss_cons a1 b1, svR_seq a2 b2⟩
theorem sv_one (h1 : SV X J st s) : SVs X J [st] s := let ⟨_, a1, a2⟩ := h1; ⟨_, pss_one a1, a2⟩
theorem sv_break : SV X J (.Break pos) sBk := ⟨_, ps_break, svR_bk⟩
theorem sv_continue : SV X J (.Continue pos) sCt := ⟨_, ps_continue, svR_ct⟩
theorem sv_pass : SV X J (.Pass pos) sNx := ⟨_, ps_pass, svR_nx⟩
theorem sv_exp (h : EV X e f) (hs : swapsWith e none pos.line X.env = pure false := by rfl) : SV X J (.Expr e pos) (sExp f) := let ⟨_, a1, a2⟩ := h; ⟨_, ps_expr a1 hs, svR_exp a2⟩
theorem sv_ret (h : EV X e f) : SV X J (.Return (some e) pos) (sRet f) := let ⟨_, a1, a2⟩ := h; ⟨_, ps_ret a1, svR_ret a2⟩
theorem sv_retN : SV X J (.Return none pos) sRetN := ⟨_, ps_retN, svR_retN⟩
theorem sv_if (hc : TV X c bf) (h1 : SVs X J sts s) (h2 : SVs X J sts2 s') : SV X J (.If c sts sts2 pos) (sIf bf s s') := let ⟨_, a1, a2⟩ := hc; let ⟨_, b1, b2⟩ := h1; let ⟨_, c1, c2⟩ := h2; ⟨_, ps_if a1 b1 c1, svR_if a2 b2 c2⟩
theorem sv_set (i : Nat) (hN : X.N.Nodup) (h : NV X e nf) (hi : X.N[i]? = some x := by rfl) (hx : Loc X.env.scope x := by first | exact .inl rfl | exact .inr rfl) (hJ : J.contains i = false := by rfl) (hs : swapsWith e (some (.Name x px)) pos.line X.env = pure false := by rfl)
    (hf : X.fn x = true ∨ X.env.scope.names.lookup x = some .local := by first | exact .inl rfl | exact .inr rfl) : SV X J (.Assign [.Name x px] e pos) (sSet i nf) := let ⟨_, a1, a2⟩ := h; ⟨_, ps_set hN hi hx a1 hs hf, svR_set a2 hJ⟩
theorem sv_par (i j : Nat) (hN : X.N.Nodup) (h1 : NV X a nf) (h2 : NV X b ng) (hc : X.calm = true := by rfl) (hi : X.N[i]? = some x := by rfl) (hj : X.N[j]? = some y := by rfl) (hij : i ≠ j := by decide) (hJ : J.contains i = false := by rfl) (hJ2 : J.contains j = false := by rfl)
    (hx : X.env.scope.names.lookup x = some .local := by rfl) (hy : X.env.scope.names.lookup y = some .local := by rfl) (hs1 : starEach [a, b] X.env = (false, eval a X.env) :: starEach [b] X.env := by rfl) (hs2 : starEach [b] X.env = (false, eval b X.env) :: starEach [] X.env := by rfl)
    (hw : swappedStores [.Tuple [.Name x px, .Name y py] k pt] (.Tuple [a, b] k2 pt2) X.env = pure (some [x, y]) := by rfl) (hs : swapsWithSole [.Tuple [.Name x px, .Name y py] k pt] (.Tuple [a, b] k2 pt2) pos.line X.env = pure false := by rfl) :
    SV X J (.Assign [.Tuple [.Name x px, .Name y py] k pt] (.Tuple [a, b] k2 pt2) pos) (sPar i j nf ng) := let ⟨_, a1, a2⟩ := h1; let ⟨_, b1, b2⟩ := h2; ⟨_, ps_par hc hN hi hj hij hx hy (pa_cons a1 (pa_cons b1 pa_nil hs2) hs1) hw hs, svR_par a2 b2 hij hJ hJ2⟩
theorem sv_par3 (i j l : Nat) (hN : X.N.Nodup) (h1 : NV X a nf) (h2 : NV X b ng) (h3 : NV X c nh) (hc : X.calm = true := by rfl) (hi : X.N[i]? = some x := by rfl) (hj : X.N[j]? = some y := by rfl) (hl : X.N[l]? = some z := by rfl) (hij : i ≠ j := by decide) (hil : i ≠ l := by decide) (hjl : j ≠ l := by decide)
    (hJ : J.contains i = false := by rfl) (hJ2 : J.contains j = false := by rfl) (hJ3 : J.contains l = false := by rfl)
    (hx : X.env.scope.names.lookup x = some .local := by rfl) (hy : X.env.scope.names.lookup y = some .local := by rfl) (hz : X.env.scope.names.lookup z = some .local := by rfl) (hs1 : starEach [a, b, c] X.env = (false, eval a X.env) :: starEach [b, c] X.env := by rfl) (hs2 : starEach [b, c] X.env = (false, eval b X.env) :: starEach [c] X.env := by rfl)
    (hs3 : starEach [c] X.env = (false, eval c X.env) :: starEach [] X.env := by rfl)
    (hw : swappedStores [.Tuple [.Name x px, .Name y py, .Name z pz] k pt] (.Tuple [a, b, c] k2 pt2) X.env = pure (some [x, y, z]) := by rfl) (hs : swapsWithSole [.Tuple [.Name x px, .Name y py, .Name z pz] k pt] (.Tuple [a, b, c] k2 pt2) pos.line X.env = pure false := by rfl) :
    SV X J (.Assign [.Tuple [.Name x px, .Name y py, .Name z pz] k pt] (.Tuple [a, b, c] k2 pt2) pos) (sPar3 i j l nf ng nh) := let ⟨_, a1, a2⟩ := h1; let ⟨_, b1, b2⟩ := h2; let ⟨_, c1, c2⟩ := h3;
  ⟨_, ps_par3 hc hN hi hj hl hij hil hjl hx hy hz (pa_cons a1 (pa_cons b1 (pa_cons c1 pa_nil hs3) hs2) hs1) hw hs, svR_par3 a2 b2 c2 hij hil hjl hJ hJ2 hJ3⟩
theorem gv_n (i : Nat) (hN : X.N.Nodup) (hi : X.N[i]? = some x := by rfl) (hx : Loc X.env.scope x := by first | exact .inl rfl | exact .inr rfl) (hJ : J.contains i = false := by rfl) (hf : X.fn x = true ∨ X.env.scope.names.lookup x = some .local := by first | exact .inl rfl | exact .inr rfl) :
    GV X J (.Name x pos) (gN i) := ⟨_, pg_name hN hi hx hf, gvR_n hJ⟩
theorem gvs_nil : GVs X J [] gsNil := ⟨_, pgs_nil, gsR_nil⟩
theorem gvs_cons (h1 : GV X J e gf) (h2 : GVs X J es gfs) (hs : (assignEach (e :: es) X.env).map (·.2) = assign e X.env :: (assignEach es X.env).map (·.2) := by rfl) : GVs X J (e :: es) (gsCons gf gfs) := let ⟨_, a1, a2⟩ := h1; let ⟨_, b1, b2⟩ := h2; ⟨_, pgs_cons a1 b1 hs, gsR_cons a2 b2⟩
theorem gv_t {n : Nat} (h : GVs X J es gfs) (hc : X.calm = true := by rfl) (hn : (assignEach es X.env).length = n := by rfl) (hst : (assignEach es X.env).findIdx? (·.1) = none := by rfl) : GV X J (.Tuple es k pos) (gT n gfs) := let ⟨_, a1, a2⟩ := h; ⟨_, pg_tup hc a1 hn hst, gvR_t a2⟩
theorem sv_asg (h : EV X e f) (hg : GV X J tg gf) (hs : swapsWithSole [tg] e pos.line X.env = pure false := by rfl) (hw : swappedStores [tg] e X.env = pure none := by rfl) (h1 : (assignEach [tg] X.env).map (·.2) = [assign tg X.env] := by rfl) : SV X J (.Assign [tg] e pos) (sAsg f gf) := let ⟨_, a1, a2⟩ := h; let ⟨_, b1, b2⟩ := hg; ⟨_, ps_asg a1 b1 hs hw h1, svR_asg a2 b2⟩
theorem sv_for (hi : IV X tg iter src) (hg : GV X J tg gf) (hb : SVs X J body s) (hp : PassesOwn (model X.prog X.w) X.A X.env X.xe := by exact PassesOwn.never) (hc : X.calm = true := by rfl) (hs : ∀ x, foldedSetIterable iter X.env x = pure x := by intro _; rfl) : SV X J (.For tg iter body [] pos) (sFor src gf s) :=
  let ⟨_, a1, a2⟩ := hi; let ⟨_, b1, b2⟩ := hg; let ⟨_, c1, c2⟩ := hb; ⟨_, ps_for hp hc a1 b1 c1 hs, svR_for a2 b2 c2⟩
theorem sv_while (n : Nat) (hc : TV X c bf) (hb : SVs X J body s) (hp : PassesOwn (model X.prog X.w) X.A X.env X.xe := by exact PassesOwn.never) : SV X J (.While c body [] pos) (sWhile n bf s) := let ⟨_, a1, a2⟩ := hc; let ⟨_, b1, b2⟩ := hb; ⟨_, ps_while hp a1 b1, svR_while a2 b2⟩
end
end EV
namespace EV
open PySem PySem.Spec PyProof.Rows L2

/-! ### defs: what a body comes to -/
def rho0 (N : Nat) (ds : List PyData) : Rho := ds.map .sh ++ List.replicate (N - ds.length) .un
/-- np parameters, N names -/
def runP (np N : Nat) (m : SF) : List PyData → Option PyData := fun ds => if ds.length = np then (match m (rho0 N ds) with
  | some (.rt d, _) => some d
  | some (.nx, _) => some .none
  | _ => none) else none
/-- one parameter, changed in place -/
def runI1 (N : Nat) (m : SF) : PyData → Option (PyData × PyData) := fun d => match m (.ow d :: List.replicate (N - 1) .un) with
  | some (.rt r, ρ) => (match (ρ : List Slot)[(0 : Nat)]? with
    | some (Slot.ow d') => some (r, d')
    | _ => none)
  | _ => none
/-- two parameters, the first changed in place -/
def runI2 (N : Nat) (m : SF) : PyData → PyData → Option (PyData × PyData) := fun d e => match m (.ow d :: .sh e :: List.replicate (N - 2) .un) with
  | some (.rt r, ρ) => (match (ρ : List Slot)[(0 : Nat)]? with
    | some (Slot.ow d') => some (r, d')
    | _ => none)
  | _ => none
/-- three parameters, the second and third changed in place -/
def runI3 (N : Nat) (m : SF) : PyData → PyData → PyData → Option (PyData × PyData × PyData) := fun e d1 d2 => match m (.sh e :: .ow d1 :: .ow d2 :: List.replicate (N - 3) .un) with
  | some (.rt r, ρ) => (match (ρ : List Slot)[(1 : Nat)]?, (ρ : List Slot)[(2 : Nat)]? with
    | some (Slot.ow d1'), some (Slot.ow d2') => some (r, d1', d2')
    | _, _ => none)
  | _ => none
section
variable (P : Program) (w : World) (K : PySem.W.Frag)
def spP (n : Nat) (g : List PyData → Option PyData) : Sp := fun vs H Q _ => vs.length = n ∧ ∃ (F : Fb) (ds : List PyData) (r : PyData), (∀ a, F a → ∃ o, H a = some o) ∧ DenAll P w K H F vs ds ∧ g ds = some r ∧
  ∀ v H', Ext H H' → Den P w K H' F v r → Q v H'
def spI1 (g : PyData → Option (PyData × PyData)) : Sp := fun vs H Q _ => ∃ (F : Fb) (a : Addr) (d r d' : PyData), vs = [.ref a] ∧ (∀ a, F a → ∃ o, H a = some o) ∧ ¬ F a ∧ Own P w K H (F.add a) a d ∧ g d = some (r, d') ∧
  ∀ v H', (∀ b o, H b = some o → b ≠ a → H' b = some o) → Own P w K H' (F.add a) a d' → Den P w K H' (F.add a) v r → Q v H'
def spI2 (g : PyData → PyData → Option (PyData × PyData)) : Sp := fun vs H Q _ => ∃ (F : Fb) (a : Addr) (x : V) (d e r d' : PyData), vs = [.ref a, x] ∧ (∀ a, F a → ∃ o, H a = some o) ∧ ¬ F a ∧ Own P w K H (F.add a) a d ∧ Den P w K H (F.add a) x e ∧ g d e = some (r, d') ∧
  ∀ v H', (∀ b o, H b = some o → b ≠ a → H' b = some o) → Own P w K H' (F.add a) a d' → Den P w K H' (F.add a) v r → Q v H'
def spI3 (g : PyData → PyData → PyData → Option (PyData × PyData × PyData)) : Sp := fun vs H Q _ => ∃ (F : Fb) (a b : Addr) (x : V) (e d1 d2 r d1' d2' : PyData), vs = [x, .ref a, .ref b] ∧ (∀ a, F a → ∃ o, H a = some o) ∧ ¬ F a ∧ ¬ F b ∧ a ≠ b ∧
  Own P w K H ((F.add a).add b) a d1 ∧ Own P w K H ((F.add a).add b) b d2 ∧ Den P w K H ((F.add a).add b) x e ∧ g e d1 d2 = some (r, d1', d2') ∧
  ∀ v H', (∀ c o, H c = some o → c ≠ a → c ≠ b → H' c = some o) → Own P w K H' ((F.add a).add b) a d1' → Own P w K H' ((F.add a).add b) b d2' → Den P w K H' ((F.add a).add b) v r → Q v H'
end
section
variable {P : Program} {w : World} {K : PySem.W.Frag} {mg : Str → Option Value} {base : Heap} {H : Hp} {F : Fb}
theorem start_get (N : List Str) (vs : List V) (i : Nat) (h : i < vs.length) : (L2.start N vs)[i]? = some (some vs[i]) := by
  unfold L2.start
  rw [List.getElem?_append_left (by rw [List.length_map]; exact h), List.getElem?_map, List.getElem?_eq_getElem h]
  rfl
theorem rho0_get {N : Nat} {ds : List PyData} {i : Nat} {s : Slot} (h : (rho0 N ds)[i]? = some s) : s = .un ∨ ∃ d, ds[i]? = some d ∧ s = .sh d := by
  unfold rho0 at h
  by_cases hi : i < ds.length
  · rw [List.getElem?_append_left (by rw [List.length_map]; exact hi), List.getElem?_map] at h
    rw [List.getElem?_eq_getElem hi] at h
    cases h
    exact .inr ⟨_, List.getElem?_eq_getElem hi, rfl⟩
  · rw [List.getElem?_append_right (by rw [List.length_map]; exact Nat.le_of_not_lt hi), List.getElem?_replicate] at h
    split at h
    · cases h
      exact .inl rfl
    · cases h
theorem rs_start {N : List Str} {vs : List V} {ds : List PyData} (ht : ∀ a, F a → ∃ o, H a = some o) (hd : DenAll P w K H F vs ds) : RS P w K F (L2.start N vs) H (rho0 N.length ds) ∧ ∀ x, ¬ Rt (L2.start N vs) (rho0 N.length ds) x := by
  have nr : ∀ x, ¬ Rt (L2.start N vs) (rho0 N.length ds) x := fun x ⟨i, d, h1, _⟩ => by
    rcases rho0_get h1 with e | ⟨_, _, e⟩ <;> cases e
  refine ⟨⟨?_, ht, fun i d h => ?_, fun i d h => ?_, fun i j d e a h1 => ?_⟩, nr⟩
  · unfold L2.start rho0
    have := hd.length
    simp only [List.length_append, List.length_map, List.length_replicate]
    omega
  · rcases rho0_get h with e | ⟨d', e1, e2⟩
    · cases e
    · cases e2
      obtain ⟨v, h1, h2⟩ := hd.get e1
      obtain ⟨hi, e⟩ := List.getElem?_eq_some_iff.mp h1
      refine ⟨v, by rw [start_get N vs i hi, e], h2.mono fun x z => z.elim id fun z => (nr x z).elim⟩
  · rcases rho0_get h with e | ⟨_, _, e⟩ <;> cases e
  · rcases rho0_get h1 with e | ⟨_, _, e⟩ <;> cases e
abbrev BodyCx (P : Program) (w : World) (K : PySem.W.Frag) (mg : Str → Option Value) (base : Heap) (N : List Str) (qual : Str) (st : Stmt) (f : Addr) (cdv : Value) (A : Around) (outer : List Env) (s : Shared) (H : Hp) (E : XK) : Cx :=
  (cxOf CX0 P w K mg base N qual (defScope st) f cdv A outer s H E).nox
/-- THE RULE for a def that changes nothing of its arguments -/
theorem mk_pure {x qual : Str} {st : Stmt} {f : Addr} {fd : FuncData} {N ps : List Str} {k np nN : Nat} (m : SF) (Fu : Fun K x qual st f fd) (S : FnScope N ps (defScope st)) (hnp : ps.length = np := by rfl) (hnN : N.length = nN := by rfl)
    (hbody : ∀ (cdv : Value) (A : Around) (outer : List Env) (s : Shared) (H : Hp) (E : XK), Room k (A.deeper (envOfC qual (defScope st) s.heap.objs.size f cdv)) → SVs (BodyCx P w K mg base N qual st f cdv A outer s H E) [] (defBody st) m) :
    FnOk P w K mg base CX0 (k + 1) f fd ps (spP P w K np (runP np nN m)) := by
  refine Fu.ok S (fun vs H Q E h => h.1.trans hnp.symm) (fun cdv A outer s H vs Q E hr h => ?_)
  obtain ⟨t, h1, h2⟩ := hbody cdv A outer s H E hr
  refine ⟨t, h1, ?_⟩
  obtain ⟨hl, F, ds, r, ht, hd, hg, hq⟩ := h
  unfold runP at hg
  split at hg
  · obtain ⟨R, nr⟩ := rs_start (N := N) ht hd
    rw [hnN] at R nr
    have up : ∀ {σ' : L2.St} {H' : Hp} {ρ' : Rho}, Stp (Rt (L2.start N vs) (rho0 nN ds)) (Rt σ' ρ') H H' → Ext H H' := fun st a o q => st.keep a o q (nr a)
    cases e : m (rho0 nN ds) with
    | none => rw [e] at hg; cases hg
    | some p =>
      obtain ⟨fl, ρ'⟩ := p
      rw [e] at hg
      refine h2 F _ H _ fl ρ' _ R e ?_
      cases fl with
      | nx => cases hg; exact fun σ' H' R' st _ => hq _ H' (up st) .non
      | rt d => cases hg; exact fun σ' v H' R' st _ dn => hq v H' (up st) (dn.mono fun x z => .inl z)
      | bk => cases hg
      | ct => cases hg
  · cases hg
theorem own_w {a : Addr} {d : PyData} {F' : Fb} (h : Own P w K H F a d) (s : ∀ x, F' x → F x) : Own P w K H F' a d := h.sub s
theorem mk_i1 {x qual : Str} {st : Stmt} {f : Addr} {fd : FuncData} {N ps : List Str} {k nN : Nat} (m : SF) (Fu : Fun K x qual st f fd) (S : FnScope N ps (defScope st)) (hnp : ps.length = 1 := by rfl) (hnN : N.length = nN := by rfl) (hN1 : 1 ≤ nN := by decide)
    (hbody : ∀ (cdv : Value) (A : Around) (outer : List Env) (s : Shared) (H : Hp) (E : XK), Room k (A.deeper (envOfC qual (defScope st) s.heap.objs.size f cdv)) → SVs (BodyCx P w K mg base N qual st f cdv A outer s H E) [0] (defBody st) m) :
    FnOk P w K mg base CX0 (k + 1) f fd ps (spI1 P w K (runI1 nN m)) := by
  refine Fu.ok S (fun vs H Q E h => ?_) (fun cdv A outer s H vs Q E hr h => ?_)
  · obtain ⟨_, _, _, _, _, rfl, _⟩ := h
    exact hnp.symm
  obtain ⟨t, h1, h2⟩ := hbody cdv A outer s H E hr
  refine ⟨t, h1, ?_⟩
  obtain ⟨F, a, d, r, d', rfl, ht, hn, ho, hg, hq⟩ := h
  unfold runI1 at hg
  have hσ : (L2.start N [V.ref a])[0]? = some (some (.ref a)) := start_get N [V.ref a] 0 (by simp)
  have rt0 : ∀ x, Rt (L2.start N [V.ref a]) (.ow d :: List.replicate (nN - 1) .un) x → x = a := fun x ⟨i, e, q1, q2⟩ => by
    cases i with
    | zero =>
      rw [hσ] at q2
      cases q2
      rfl
    | succ i =>
      rw [List.getElem?_cons_succ, List.getElem?_replicate] at q1
      split at q1 <;> cases q1
  have fb0 : ∀ x, FbS F (L2.start N [V.ref a]) (.ow d :: List.replicate (nN - 1) .un) x → F.add a x := fun x z => z.elim .inl fun z => .inr (rt0 x z)
  have un0 : ∀ {i : Nat} {s : Slot}, (Slot.ow d :: List.replicate (nN - 1) .un)[i]? = some s → (i = 0 ∧ s = .ow d) ∨ s = .un := fun {i s} q => by
    cases i with
    | zero => cases q; exact .inl ⟨rfl, rfl⟩
    | succ i =>
      rw [List.getElem?_cons_succ, List.getElem?_replicate] at q
      split at q
      · cases q; exact .inr rfl
      · cases q
  have R : RS P w K F (L2.start N [V.ref a]) H (.ow d :: List.replicate (nN - 1) .un) := by
    refine ⟨by unfold L2.start; simp [hnN] <;> omega, ht, fun i e q => ?_, fun i e q => ?_, fun i j e e' b q1 q2 _ _ => ?_⟩
    · rcases un0 q with ⟨_, z⟩ | z <;> cases z
    · rcases un0 q with ⟨rfl, z⟩ | z
      · cases z
        exact ⟨a, hσ, hn, ho.sub fb0⟩
      · cases z
    · rcases un0 q1 with ⟨rfl, _⟩ | z
      · rcases un0 q2 with ⟨rfl, _⟩ | z
        · rfl
        · cases z
      · cases z
  cases e : m (.ow d :: List.replicate (nN - 1) .un) with
  | none => rw [e] at hg; cases hg
  | some p =>
    obtain ⟨fl, ρ'⟩ := p
    rw [e] at hg
    refine h2 F _ H _ fl ρ' _ R e ?_
    cases fl with
    | nx => cases hg
    | rt d2 =>
      simp only at hg
      split at hg
      · rename_i e3
        cases hg
        refine fun σ' v H' R' st ag dn => ?_
        obtain ⟨b, q1, q2, q3⟩ := R'.ow 0 _ e3
        rw [ag 0 (by simp), hσ] at q1
        cases q1
        have hr' : Rt σ' ρ' a := ⟨0, _, e3, by rw [ag 0 (by simp), hσ]⟩
        have sb : ∀ x, F.add a x → FbS F σ' ρ' x := fun x z => z.elim .inl fun z => .inr (by rw [z]; exact hr')
        exact hq v H' (fun c o q n => st.keep c o q fun z => n (rt0 c z)) (q3.sub sb) (dn.mono sb)
      · cases hg
    | bk => cases hg
    | ct => cases hg
theorem mk_i2 {x qual : Str} {st : Stmt} {f : Addr} {fd : FuncData} {N ps : List Str} {k nN : Nat} (m : SF) (Fu : Fun K x qual st f fd) (S : FnScope N ps (defScope st)) (hnp : ps.length = 2 := by rfl) (hnN : N.length = nN := by rfl) (hN1 : 2 ≤ nN := by decide)
    (hbody : ∀ (cdv : Value) (A : Around) (outer : List Env) (s : Shared) (H : Hp) (E : XK), Room k (A.deeper (envOfC qual (defScope st) s.heap.objs.size f cdv)) → SVs (BodyCx P w K mg base N qual st f cdv A outer s H E) [0] (defBody st) m) :
    FnOk P w K mg base CX0 (k + 1) f fd ps (spI2 P w K (runI2 nN m)) := by
  refine Fu.ok S (fun vs H Q E h => ?_) (fun cdv A outer s H vs Q E hr h => ?_)
  · obtain ⟨_, _, _, _, _, _, _, rfl, _⟩ := h
    exact hnp.symm
  obtain ⟨t, h1, h2⟩ := hbody cdv A outer s H E hr
  refine ⟨t, h1, ?_⟩
  obtain ⟨F, a, x, d, ex, r, d', rfl, ht, hn, ho, hx, hg, hq⟩ := h
  unfold runI2 at hg
  have hσ : (L2.start N [V.ref a, x])[0]? = some (some (.ref a)) := start_get N [V.ref a, x] 0 (by simp)
  have hσ1 : (L2.start N [V.ref a, x])[1]? = some (some x) := start_get N [V.ref a, x] 1 (by simp)
  have un0 : ∀ {i : Nat} {s : Slot}, (Slot.ow d :: .sh ex :: List.replicate (nN - 2) .un)[i]? = some s → (i = 0 ∧ s = .ow d) ∨ (i = 1 ∧ s = .sh ex) ∨ s = .un := fun {i s} q => by
    match i with
    | 0 => cases q; exact .inl ⟨rfl, rfl⟩
    | 1 => cases q; exact .inr (.inl ⟨rfl, rfl⟩)
    | i + 2 =>
      rw [List.getElem?_cons_succ, List.getElem?_cons_succ, List.getElem?_replicate] at q
      split at q
      · cases q; exact .inr (.inr rfl)
      · cases q
  have rt0 : ∀ y, Rt (L2.start N [V.ref a, x]) (.ow d :: .sh ex :: List.replicate (nN - 2) .un) y → y = a := fun y ⟨i, e, q1, q2⟩ => by
    rcases un0 q1 with ⟨rfl, _⟩ | ⟨_, z⟩ | z
    · rw [hσ] at q2
      cases q2
      rfl
    · cases z
    · cases z
  have fb0 : ∀ y, FbS F (L2.start N [V.ref a, x]) (.ow d :: .sh ex :: List.replicate (nN - 2) .un) y → F.add a y := fun y z => z.elim .inl fun z => .inr (rt0 y z)
  have R : RS P w K F (L2.start N [V.ref a, x]) H (.ow d :: .sh ex :: List.replicate (nN - 2) .un) := by
    refine ⟨by unfold L2.start; simp [hnN] <;> omega, ht, fun i e q => ?_, fun i e q => ?_, fun i j e e' b q1 q2 _ _ => ?_⟩
    · rcases un0 q with ⟨_, z⟩ | ⟨rfl, z⟩ | z
      · cases z
      · cases z
        exact ⟨x, hσ1, hx.mono fb0⟩
      · cases z
    · rcases un0 q with ⟨rfl, z⟩ | ⟨_, z⟩ | z
      · cases z
        exact ⟨a, hσ, hn, ho.sub fb0⟩
      · cases z
      · cases z
    · rcases un0 q1 with ⟨rfl, _⟩ | ⟨_, z⟩ | z
      · rcases un0 q2 with ⟨rfl, _⟩ | ⟨_, z⟩ | z
        · rfl
        · cases z
        · cases z
      · cases z
      · cases z
  cases e : m (.ow d :: .sh ex :: List.replicate (nN - 2) .un) with
  | none => rw [e] at hg; cases hg
  | some p =>
    obtain ⟨fl, ρ'⟩ := p
    rw [e] at hg
    refine h2 F _ H _ fl ρ' _ R e ?_
    cases fl with
    | nx => cases hg
    | rt d2 =>
      simp only at hg
      split at hg
      · rename_i e3
        cases hg
        refine fun σ' v H' R' st ag dn => ?_
        obtain ⟨b, q1, q2, q3⟩ := R'.ow 0 _ e3
        rw [ag 0 (by simp), hσ] at q1
        cases q1
        have hr' : Rt σ' ρ' a := ⟨0, _, e3, by rw [ag 0 (by simp), hσ]⟩
        have sb : ∀ y, F.add a y → FbS F σ' ρ' y := fun y z => z.elim .inl fun z => .inr (by rw [z]; exact hr')
        exact hq v H' (fun c o q n => st.keep c o q fun z => n (rt0 c z)) (q3.sub sb) (dn.mono sb)
      · cases hg
    | bk => cases hg
    | ct => cases hg
end

/-! ### calls -/
def eCall (g : List PyData → Option PyData) (a : LF) : EF := fun ρ => (a ρ).bind fun p => (g p.1).map fun r => (r, p.2)
def eI1 (g : PyData → Option (PyData × PyData)) (i : Nat) : EF := fun ρ => match ρ[i]? with
  | some (.ow d) => (g d).map fun p => (p.1, ρ.set i (.ow p.2))
  | _ => none
def eI2 (g : PyData → PyData → Option (PyData × PyData)) (i : Nat) (f : EF) : EF := fun ρ => (rVar i ρ).bind fun _ => (f ρ).bind fun q => match q.2[i]? with
  | some (.ow d) => (g d q.1).map fun p => (p.1, q.2.set i (.ow p.2))
  | _ => none
section
variable {P : Program} {w : World} {K : PySem.W.Frag} {t : TA} {te : TE} {a : LF} {f : EF} {n i : Nat} {g : List PyData → Option PyData} {g1 : PyData → Option (PyData × PyData)} {g2 : PyData → PyData → Option (PyData × PyData)} {E : XK}
theorem runP_len {np N : Nat} {m : SF} {ds : List PyData} {r : PyData} (h : runP np N m ds = some r) : ds.length = np := by
  unfold runP at h
  split at h
  · assumption
  · cases h
theorem evR_call (ha : AvR P w K t a) (hl : ∀ ds r, g ds = some r → ds.length = n) : EvR P w K (tCall (spP P w K n g) [] E t) (eCall g a) := by
  intro A σ H ρ d ρ' Q R e k
  unfold eCall at e
  obtain ⟨⟨d1, ρ1⟩, e1, e⟩ := Option.bind_eq_some_iff.mp e
  obtain ⟨r, e2, e⟩ := Option.map_eq_some_iff.mp e
  cases e
  refine ha A σ H ρ d1 ρ1 _ R e1 fun vs H1 R1 p1 n1 => ?_
  rw [List.append_nil]
  exact ⟨n1.length.trans (hl _ _ e2), FbS A σ ρ1, d1, _, R1.ftrk, n1, e2, fun v H' ex dn => k v H' (R1.ext ex) (p1.trans (Pe.ext ex)) dn⟩
theorem evR_i1 : EvR P w K (tCall (spI1 P w K g1) [] E (tCons (tVar i) tNil)) (eI1 g1 i) := by
  intro A σ H ρ d ρ' Q R e k
  unfold eI1 at e
  split at e
  · rename_i d1 hd
    obtain ⟨⟨r, d'⟩, e2, e⟩ := Option.map_eq_some_iff.mp e
    cases e
    obtain ⟨a, h1, h2, h3⟩ := R.ow i _ hd
    have hra : FbS A σ ρ a := .inr ⟨i, _, hd, h1⟩
    have eqs : ∀ x, FbS A σ ρ x → Fb.add (fun y => FbS A σ ρ y ∧ y ≠ a) a x := fun x z => by
      by_cases hx : x = a
      · exact .inr hx
      · exact .inl ⟨z, hx⟩
    have eqs' : ∀ x, Fb.add (fun y => FbS A σ ρ y ∧ y ≠ a) a x → FbS A σ ρ x := fun x z => z.elim (·.1) fun z => by rw [z]; exact hra
    refine ⟨_, h1, fun y => FbS A σ ρ y ∧ y ≠ a, a, d1, r, d', rfl, fun x z => R.ftrk x z.1, fun z => z.2 rfl, h3.sub eqs', e2, fun v H' kp ow dn => ?_⟩
    obtain ⟨R', p'⟩ := R.mutG hd h1 kp (ow.sub eqs)
    exact k v H' R' p' (dn.mono fun x z => eqs x (z.elim .inl fun z => .inr (p'.sub x z)))
  · cases e
theorem evR_i2 (hf : EvR P w K te f) : EvR P w K (tCall (spI2 P w K g2) [] E (tCons (tVar i) (tCons te tNil))) (eI2 g2 i f) := by
  intro A σ H ρ d ρ' Q R e k
  unfold eI2 at e
  obtain ⟨⟨d0, ρ0⟩, e0, e⟩ := Option.bind_eq_some_iff.mp e
  obtain ⟨⟨d2, ρ2⟩, e1, e⟩ := Option.bind_eq_some_iff.mp e
  obtain ⟨_, v0, hv, _⟩ := R.read e0
  refine ⟨v0, hv, hf A σ H ρ d2 ρ2 _ R e1 fun x H2 R2 p2 n2 => ?_⟩
  simp only at e
  split at e
  · rename_i d1 hd
    obtain ⟨⟨r, d'⟩, e2, e⟩ := Option.map_eq_some_iff.mp e
    cases e
    obtain ⟨a, h1, h2, h3⟩ := R2.ow i _ hd
    rw [hv] at h1
    cases h1
    have hra : FbS A σ ρ2 a := .inr ⟨i, _, hd, hv⟩
    have eqs : ∀ x, FbS A σ ρ2 x → Fb.add (fun y => FbS A σ ρ2 y ∧ y ≠ a) a x := fun x z => by
      by_cases hx : x = a
      · exact .inr hx
      · exact .inl ⟨z, hx⟩
    have eqs' : ∀ x, Fb.add (fun y => FbS A σ ρ2 y ∧ y ≠ a) a x → FbS A σ ρ2 x := fun x z => z.elim (·.1) fun z => by rw [z]; exact hra
    refine ⟨fun y => FbS A σ ρ2 y ∧ y ≠ a, a, x, d1, d2, r, d', rfl, fun x z => R2.ftrk x z.1, fun z => z.2 rfl, h3.sub eqs', n2.mono eqs', e2, fun v H' kp ow dn => ?_⟩
    obtain ⟨R', p'⟩ := R2.mutG hd hv kp (ow.sub eqs)
    exact k v H' R' (p2.trans p') (dn.mono fun x z => eqs x (z.elim .inl fun z => .inr (p'.sub x z)))
  · cases e
end
section
variable {X : Cx} {k n np N i : Nat} {f : Addr} {fd : FuncData} {ps : List Str} {x y : Str} {p pos p2 : Pos} {e : Expr} {es : List Expr} {a : LF} {fe : EF} {m : SF} {g1 : PyData → Option (PyData × PyData)} {g2 : PyData → PyData → Option (PyData × PyData)}
/-- a def as it stands for a caller -/
structure Dn (X : Cx) (x : Str) (f : Addr) (fd : FuncData) (ps : List Str) : Prop where
  mg : X.mg x = some (.ref f)
  kp : PySem.W.keepIn X.K (.ref f) = true
  b : Binds X.K fd ps []
theorem ev_call {g : List PyData → Option PyData} (F : FnOk X.prog X.w X.K X.mg X.base CX0 k f fd ps (spP X.prog X.w X.K n g)) (hr : Room k X.A) (D : Dn X x f fd ps) (ha : AV X (e :: es) a) (hl : ∀ ds r, g ds = some r → ds.length = n := by exact fun _ _ h => runP_len h) (hg : Gl X x := by rfl)
    (hdb : (x == ("__debug__" : Str)) = false := by decide) (he : starEach (e :: es) X.env = (false, eval e X.env) :: starEach es X.env := by rfl) (hpl : (backTo pos (starEach es X.env)).any (·.1) = false := by rfl) : EV X (.Call (.Name x p) (e :: es) [] pos) (eCall g a) :=
  let ⟨_, h1, h2⟩ := ha; ⟨_, pe_call F hr hg D.mg D.kp D.b .nil pass0 h1 hdb he hpl, evR_call h2 hl⟩
theorem ev_call0 {g : List PyData → Option PyData} (F : FnOk X.prog X.w X.K X.mg X.base CX0 k f fd ps (spP X.prog X.w X.K n g)) (hr : Room k X.A) (D : Dn X x f fd ps) (hl : ∀ ds r, g ds = some r → ds.length = n := by exact fun _ _ h => runP_len h) (hg : Gl X x := by rfl)
    (hdb : (x == ("__debug__" : Str)) = false := by decide) : EV X (.Call (.Name x p) [] [] pos) (eCall g aNil) := ⟨_, pe_call0 F hr hg D.mg D.kp D.b .nil pass0 hdb, evR_call avR_nil hl⟩
theorem ev_i1 (i : Nat) (F : FnOk X.prog X.w X.K X.mg X.base CX0 k f fd ps (spI1 X.prog X.w X.K g1)) (hr : Room k X.A) (D : Dn X x f fd ps) (hN : X.N[i]? = some y := by rfl) (hv : Vis X.env.scope y := by first | exact Or.inl rfl | exact Or.inr (Or.inl rfl) | exact Or.inr (Or.inr rfl)) (hd : (y == ("__debug__" : Str)) = false := by decide)
    (hcd : (y == ("__classdict__" : Str)) = false := by decide) (hg : Gl X x := by rfl) (hdb : (x == ("__debug__" : Str)) = false := by decide) (he : starEach [.Name y p2] X.env = (false, eval (.Name y p2) X.env) :: starEach [] X.env := by rfl) (hpl : (backTo pos (starEach [] X.env)).any (·.1) = false := by rfl) :
    EV X (.Call (.Name x p) [.Name y p2] [] pos) (eI1 g1 i) := ⟨_, pe_call F hr hg D.mg D.kp D.b .nil pass0 (pa_cons (pe_var hN hv hd hcd) pa_nil he) hdb he hpl, evR_i1⟩
theorem ev_i2 (i : Nat) (F : FnOk X.prog X.w X.K X.mg X.base CX0 k f fd ps (spI2 X.prog X.w X.K g2)) (hr : Room k X.A) (D : Dn X x f fd ps) (h : EV X e fe) (hN : X.N[i]? = some y := by rfl) (hv : Vis X.env.scope y := by first | exact Or.inl rfl | exact Or.inr (Or.inl rfl) | exact Or.inr (Or.inr rfl)) (hd : (y == ("__debug__" : Str)) = false := by decide)
    (hcd : (y == ("__classdict__" : Str)) = false := by decide) (hg : Gl X x := by rfl) (hdb : (x == ("__debug__" : Str)) = false := by decide) (he : starEach [.Name y p2, e] X.env = (false, eval (.Name y p2) X.env) :: starEach [e] X.env := by rfl) (he2 : starEach [e] X.env = (false, eval e X.env) :: starEach [] X.env := by rfl)
    (hpl : (backTo pos (starEach [e] X.env)).any (·.1) = false := by rfl) :
    EV X (.Call (.Name x p) [.Name y p2, e] [] pos) (eI2 g2 i fe) := let ⟨_, h1, h2⟩ := h; ⟨_, pe_call F hr hg D.mg D.kp D.b .nil pass0 (pa_cons (pe_var hN hv hd hcd) (pa_cons h1 pa_nil he2) he) hdb he hpl, evR_i2 h2⟩
end
end EV
namespace EV
open PySem PySem.Spec PyProof.Rows L2

/-! ### dicts as lists of pairs -/
def keyEq (a b : PyData) : Bool := match nkey a, nkey b with
  | some x, some y => NestedKey.beq x y
  | _, _ => false
def dkGet (ds : List (PyData × PyData)) (k : PyData) : Option PyData := (ds.find? fun p => keyEq p.1 k).map (·.2)
def dkHas (ds : List (PyData × PyData)) (k : PyData) : Bool := ds.any fun p => keyEq p.1 k
def dkPut (ds : List (PyData × PyData)) (k v : PyData) : List (PyData × PyData) := if dkHas ds k = true then ds.map (fun p => if keyEq p.1 k = true then (p.1, v) else p) else ds ++ [(k, v)]
theorem dkHas_get (ds : List (PyData × PyData)) (k : PyData) : dkHas ds k = (dkGet ds k).isSome := by
  unfold dkHas dkGet
  rw [Option.isSome_map]
  induction ds with
  | nil => rfl
  | cons p ds ih =>
    rw [List.any_cons, List.find?_cons]
    cases keyEq p.1 k with
    | true => rfl
    | false => simpa using ih
/-- the kind of a key: false for an int or a text, true for a tuple -/
def kind (d : PyData) : Option Bool := match d with
  | .int _ => some false
  | .str _ => some false
  | .tuple _ => (match nkey d with
    | some k => if k.depth ≤ 8 then some true else none
    | none => none)
  | _ => none
def okKey (ds : List (PyData × PyData)) (k : PyData) : Option Bool := match kind k with
  | none => none
  | some b => (match ds with
    | [] => some b
    | p :: _ => if kind p.1 = some b then some b else none)
section
variable {P : Program} {w : World} {K : PySem.W.Frag} {H : Hp} {F : Fb}
theorem nkey_keyD (k : Key) : nkey (keyD k) = some (match k with | .inl i => .num i | .inr x => .text x) := by cases k <;> simp [keyD, nkey]
theorem keyEq_keyD (a b : Key) : keyEq (keyD a) (keyD b) = decide (a = b) := by
  unfold keyEq
  rw [nkey_keyD, nkey_keyD]
  cases a with
  | inl i =>
    cases b with
    | inl j => simp [NestedKey.beq]
    | inr y => simp [NestedKey.beq]
  | inr x =>
    cases b with
    | inl j => simp [NestedKey.beq]
    | inr y => simp [NestedKey.beq]
theorem keyEq_of {a b : PyData} {x y : NestedKey} (ha : nkey a = some x) (hb : nkey b = some y) : keyEq a b = decide (x = y) := by
  unfold keyEq
  rw [ha, hb]
  exact (NestedKey.decide_eq x y).symm
/-- what a look-up gives -/
def LookR (P : Program) (w : World) (K : PySem.W.Frag) (H : Hp) (F : Fb) (u : Option Value) (d : Option PyData) : Prop :=
  (u = none ∧ d = none) ∨ ∃ u' v d', u = some u' ∧ d = some d' ∧ RelV v u' ∧ Den P w K H F v d'
theorem LookR.isSome {u : Option Value} {d : Option PyData} (h : LookR P w K H F u d) : u.isSome = d.isSome := by
  rcases h with ⟨rfl, rfl⟩ | ⟨_, _, _, rfl, rfl, _⟩ <;> rfl
theorem denKV_look {kvs : List (Key × Value)} {ds : List (PyData × PyData)} (k : Key) (h : DenKV P w K H F kvs ds) : LookR P w K H F (valueAt kvs k) (dkGet ds (keyD k)) := by
  induction kvs generalizing ds with
  | nil => cases h; exact .inl ⟨rfl, rfl⟩
  | cons p kvs ih =>
    cases h with
    | @cons k' u v d _ ds r h t =>
      by_cases e : k' = k
      · refine .inr ⟨u, v, d, ?_, ?_, r, h⟩
        · simp [valueAt, List.find?_cons, e]
        · simp [dkGet, List.find?_cons, keyEq_keyD, e]
      · have q := ih t
        have a1 : valueAt ((k', u) :: kvs) k = valueAt kvs k := by simp [valueAt, List.find?_cons, e]
        have a2 : dkGet ((keyD k', d) :: ds) (keyD k) = dkGet ds (keyD k) := by simp [dkGet, List.find?_cons, keyEq_keyD, e]
        rw [a1, a2]
        exact q
theorem denKV_len {kvs : List (Key × Value)} {ds : List (PyData × PyData)} (h : DenKV P w K H F kvs ds) : kvs.length = ds.length := by
  induction kvs generalizing ds with
  | nil => cases h; rfl
  | cons p kvs ih =>
    cases h with
    | cons r h t => simp [ih t]
theorem denKV_any {kvs : List (Key × Value)} {ds : List (PyData × PyData)} (k : Key) (h : DenKV P w K H F kvs ds) : (kvs.any fun kv => decide (kv.1 = k)) = dkHas ds (keyD k) := by
  unfold dkHas
  induction kvs generalizing ds with
  | nil => cases h; rfl
  | cons p kvs ih =>
    cases h with
    | cons r h t => rw [List.any_cons, List.any_cons, ih t, keyEq_keyD]
theorem denKV_append {kvs ls : List (Key × Value)} {ds es : List (PyData × PyData)} (h : DenKV P w K H F kvs ds) (h2 : DenKV P w K H F ls es) : DenKV P w K H F (kvs ++ ls) (ds ++ es) := by
  induction kvs generalizing ds with
  | nil => cases h; exact h2
  | cons p kvs ih =>
    cases h with
    | cons r h t => exact .cons r h (ih t)
theorem denKV_put {kvs : List (Key × Value)} {ds : List (PyData × PyData)} (k : Key) {u : Value} {v : V} {d : PyData} (h : DenKV P w K H F kvs ds) (r : RelV v u) (hd : Den P w K H F v d) : DenKV P w K H F (stored kvs k u) (dkPut ds (keyD k) d) := by
  unfold stored dkPut
  rw [denKV_any k h]
  by_cases e : dkHas ds (keyD k) = true
  · rw [if_pos e, if_pos e]
    clear e
    induction kvs generalizing ds with
    | nil => cases h; exact .nil
    | cons p kvs ih =>
      cases h with
      | @cons k' u' v' d' _ ds r' h' t =>
        rw [List.map_cons, List.map_cons]
        by_cases e : k' = k
        · have a2 : keyEq (keyD k') (keyD k) = true := by rw [keyEq_keyD]; exact decide_eq_true e
          rw [if_pos e, if_pos a2]
          exact .cons r hd (ih t)
        · have a2 : ¬ keyEq (keyD k') (keyD k) = true := by rw [keyEq_keyD]; simp [e]
          rw [if_neg e, if_neg a2]
          exact .cons r' h' (ih t)
  · rw [if_neg e, if_neg e]
    exact denKV_append h (.cons r hd .nil)
theorem denKT_look {xs : List (NestedKey × Addr × Value)} {ds : List (PyData × PyData)} {k : NestedKey} {kd : PyData} (hk : nkey kd = some k) (h : DenKT P w K H F xs ds) : LookR P w K H F ((atKey xs k).map (·.2)) (dkGet ds kd) := by
  induction xs generalizing ds with
  | nil => cases h; exact .inl ⟨rfl, rfl⟩
  | cons p xs ih =>
    cases h with
    | @cons k' a u v kd' d _ ds h1 h2 h3 r h t =>
      by_cases e : k' = k
      · refine .inr ⟨u, v, d, ?_, ?_, r, h⟩
        · simp [atKey, List.find?_cons, e]
        · simp [dkGet, List.find?_cons, keyEq_of h2 hk, e]
      · have q := ih t
        have a1 : atKey ((k', a, u) :: xs) k = atKey xs k := by simp [atKey, List.find?_cons, e]
        have a2 : dkGet ((kd', d) :: ds) kd = dkGet ds kd := by simp [dkGet, List.find?_cons, keyEq_of h2 hk, e]
        rw [a1, a2]
        exact q
theorem denKT_len {xs : List (NestedKey × Addr × Value)} {ds : List (PyData × PyData)} (h : DenKT P w K H F xs ds) : xs.length = ds.length := by
  induction xs generalizing ds with
  | nil => cases h; rfl
  | cons p kvs ih =>
    cases h with
    | cons _ _ _ _ _ t => simp [ih t]
theorem denKT_any {xs : List (NestedKey × Addr × Value)} {ds : List (PyData × PyData)} {k : NestedKey} {kd : PyData} (hk : nkey kd = some k) (h : DenKT P w K H F xs ds) : (atKey xs k).isSome = dkHas ds kd := by
  have := (denKT_look hk h).isSome
  rw [Option.isSome_map] at this
  rw [this, dkHas_get]
theorem denKT_append {xs ls : List (NestedKey × Addr × Value)} {ds es : List (PyData × PyData)} (h : DenKT P w K H F xs ds) (h2 : DenKT P w K H F ls es) : DenKT P w K H F (xs ++ ls) (ds ++ es) := by
  induction xs generalizing ds with
  | nil => cases h; exact h2
  | cons p kvs ih =>
    cases h with
    | cons h1 h2' h3 r h t => exact .cons h1 h2' h3 r h (ih t)
theorem denKT_put {xs : List (NestedKey × Addr × Value)} {ds : List (PyData × PyData)} {k : NestedKey} {kd : PyData} {a : Addr} {u : Value} {v : V} {d : PyData} (hk : nkey kd = some k) (hk8 : k.depth ≤ 8) (ha : Den P w K H F (.ref a) kd) (h : DenKT P w K H F xs ds) (r : RelV v u) (hd : Den P w K H F v d) :
    DenKT P w K H F (storedH xs k a u) (dkPut ds kd d) := by
  unfold storedH dkPut
  rw [denKT_any hk h]
  by_cases e : dkHas ds kd = true
  · rw [if_pos e, if_pos e]
    clear e
    induction xs generalizing ds with
    | nil => cases h; exact .nil
    | cons p xs ih =>
      cases h with
      | @cons k' a' u' v' kd' d' _ ds h1 h2 h3 r' h' t =>
        rw [List.map_cons, List.map_cons]
        by_cases e : k' = k
        · have a2 : keyEq kd' kd = true := by rw [keyEq_of h2 hk]; exact decide_eq_true e
          unfold putAt
          rw [if_pos e, if_pos a2]
          exact .cons h1 h2 h3 r hd (ih t)
        · have a2 : ¬ keyEq kd' kd = true := by rw [keyEq_of h2 hk]; simp [e]
          unfold putAt
          rw [if_neg e, if_neg a2]
          exact .cons h1 h2 h3 r' h' (ih t)
  · rw [if_neg e, if_neg e]
    exact denKT_append h (.cons ha hk hk8 r hd .nil)
end

/-! ### keys in the heap -/
section
variable {X : Cx} {pins : List (Addr × Obj)} {σ : L2.St} {H : Hp} {s : Shared} {F : Fb}
theorem nkeys_cons {d : PyData} {ds : List PyData} {ks : List NestedKey} (h : nkeys (d :: ds) = some ks) : ∃ k r, nkey d = some k ∧ nkeys ds = some r ∧ ks = k :: r := by
  rw [nkeys] at h
  obtain ⟨k, h1, h⟩ := Option.bind_eq_some_iff.mp h
  obtain ⟨r, h2, h⟩ := Option.map_eq_some_iff.mp h
  exact ⟨k, r, h1, h2, h.symm⟩
mutual
theorem Den.nested (I : Inv X pins σ H s) : ∀ {d : PyData} {v : V} {k : NestedKey} {u : Value}, Den X.prog X.w X.K H F v d → nkey d = some k → RelV v u → NestedIs s.heap k u
  | .none, _, _, _, h, e, r => by
    cases h; cases r
    rw [nkey] at e; cases e
    exact .none
  | .bool b, _, _, _, h, e, r => by
    cases h; cases r
    rw [nkey] at e; cases e
    exact .bool rfl
  | .int i, _, _, _, h, e, r => by
    cases h
    obtain ⟨t, rfl⟩ := r
    rw [nkey] at e; cases e
    exact .int i t
  | .str x, _, _, _, h, e, r => by
    cases h
    obtain ⟨t, rfl⟩ := r
    rw [nkey] at e; cases e
    exact .text x t
  | .list _, _, _, _, _, e, _ => by rw [nkey] at e; cases e
  | .dict _, _, _, _, _, e, _ => by rw [nkey] at e; cases e
  | .tuple ds, _, _, _, h, e, r => by
    rw [nkey] at e
    obtain ⟨ks, e1, e2⟩ := Option.map_eq_some_iff.mp e
    cases e2
    obtain ⟨a, xs, rfl, hq, ht⟩ := h.x.tupl
    obtain rfl : _ = Value.ref a := r
    obtain ⟨its, rv, ⟨o, ho, hc, n, hd⟩, _⟩ := I.tuple hq
    exact .tup ho hc hd (DenAll.nested I ht e1 (by simpa using rv))
theorem DenAll.nested (I : Inv X pins σ H s) : ∀ {ds : List PyData} {vs : List V} {ks : List NestedKey} {us : List Value}, DenAll X.prog X.w X.K H F vs ds → nkeys ds = some ks → Vals vs us → NestedAll s.heap ks us
  | [], _, _, _, h, e, r => by
    cases h; cases r
    rw [nkeys] at e; cases e
    exact .nil
  | d :: ds, _, _, _, h, e, r => by
    obtain ⟨k, ks, e1, e2, rfl⟩ := nkeys_cons e
    cases h with
    | cons h1 h2 =>
      cases r with
      | cons r1 r2 => exact .cons (Den.nested I h1 e1 r1) (DenAll.nested I h2 e2 r2)
end
theorem denKT_is (I : Inv X pins σ H s) : ∀ {xs : List (NestedKey × Addr × Value)} {ds : List (PyData × PyData)}, DenKT X.prog X.w X.K H F xs ds → ∀ x ∈ xs, (nestedKind X.prog X.w).is s.heap x.1 x.2.1
  | _, _, .nil, _, hx => by cases hx
  | _, _, .cons h1 h2 h3 _ _ t, x, hx => by
    rcases List.mem_cons.mp hx with rfl | hx
    · exact ⟨Den.nested I h1 h2 rfl, h3⟩
    · exact denKT_is I t x hx
theorem td_of (I : Inv X pins σ H s) {a : Addr} {o : Obj} {xs : List (NestedKey × Addr × Value)} {ds : List (PyData × PyData)} (h : H a = some (ObjIs a o)) (td : TD X.prog X.w a o xs) (t : DenKT X.prog X.w X.K H F xs ds) :
    s.heap.DictOfH (nestedKind X.prog X.w) a xs := by
  obtain ⟨_, ex, ⟨es, ep, e1, e2⟩, nd, _⟩ := td
  obtain ⟨q, _, _⟩ := I.hok a _ h
  exact ⟨o, es, ep, q, ex, e1, e2, denKT_is I t, nd⟩
theorem kd_of (I : Inv X pins σ H s) {a : Addr} {o : Obj} {kvs : List (Key × Value)} (h : H a = some (ObjIs a o)) (td : KD X.prog X.w a o kvs) : s.heap.DictOf (mixKind X.prog X.w) a kvs := by
  obtain ⟨_, ex, ⟨es, ep, e1, e2, e3⟩, nd, _⟩ := td
  obtain ⟨q, _, _⟩ := I.hok a _ h
  exact ⟨o, es, ep, q, ex, e1, e2, e3, nd⟩
theorem objIs_ok {P : Program} {w : World} {H : Hp} {h : Heap} {a : Addr} {o : Obj} (q : h.get? a = some o) : ObjOk P w H h a (ObjIs a o) := ⟨q, ⟨o, q⟩, fun _ _ e k => k o e⟩
end

/-! ### a dict at a value -/
/-- which of the two makes -/
inductive DX (P : Program) (w : World) (K : PySem.W.Frag) (H : Hp) (F : Fb) (a : Addr) (ds : List (PyData × PyData)) : Bool → Prop
  | k {o : Obj} {kvs : List (Key × Value)} : H a = some (ObjIs a o) → KD P w a o kvs → DenKV P w K H F kvs ds → DX P w K H F a ds false
  | t {o : Obj} {xs : List (NestedKey × Addr × Value)} : H a = some (ObjIs a o) → TD P w a o xs → DenKT P w K H F xs ds → DX P w K H F a ds true
section
variable {P : Program} {w : World} {K : PySem.W.Frag} {H : Hp} {F : Fb}
theorem kd_nil {a : Addr} {o : Obj} (h : KD P w a o []) : TD P w a o [] := by
  obtain ⟨h0, ex, ⟨es, ep, e1, _, e3⟩, _, _⟩ := h
  have : es.toList = [] := by
    cases q : es.toList with
    | nil => rfl
    | cons x r => rw [q] at e3; cases e3
  exact ⟨h0, ex, ⟨es, ep, e1, by rw [this]; rfl⟩, List.nodup_nil, Nat.zero_le _⟩
theorem td_nil {a : Addr} {o : Obj} (h : TD P w a o []) : KD P w a o [] := by
  obtain ⟨h0, ex, ⟨es, ep, e1, e2⟩, _, _⟩ := h
  have e2' : es.toList = [] := e2
  refine ⟨h0, ex, ⟨es, ep, e1, ?_, by rw [e2']; exact .nil⟩, List.nodup_nil, Nat.zero_le _⟩
  have e0 : es = #[] := by
    cases es with
    | mk l => simp at e2'; rw [e2']
  rw [e0]
  intro e he
  simp at he
theorem kind_keyD (k : Key) : kind (keyD k) = some false := by cases k <;> rfl
theorem den_kind {a : Addr} {kd : PyData} {k : NestedKey} (h : Den P w K H F (.ref a) kd) (e : nkey kd = some k) (h8 : k.depth ≤ 8) : kind kd = some true := by
  cases h with
  | lst => rw [nkey] at e; cases e
  | klst => rw [nkey] at e; cases e
  | tup => unfold kind; simp only [e]; rw [if_pos h8]
  | ktup => unfold kind; simp only [e]; rw [if_pos h8]
  | dk => rw [nkey] at e; cases e
  | dt => rw [nkey] at e; cases e
theorem dx_of {v : V} {ds : List (PyData × PyData)} {kd : PyData} {b : Bool} (h : DenX P w K H F v (.dict ds)) (ok : okKey ds kd = some b) : ∃ a, v = .ref a ∧ DX P w K H F a ds b ∧ kind kd = some b := by
  have base : ∃ a, v = .ref a ∧ ∃ b', DX P w K H F a ds b' := by
    cases h with
    | of h =>
      cases h with
      | dk _ q td t => exact ⟨_, rfl, false, .k q td t⟩
      | dt _ q td t => exact ⟨_, rfl, true, .t q td t⟩
    | ow h =>
      cases h with
      | dk q td t => exact ⟨_, rfl, false, .k q td t⟩
      | dt q td t => exact ⟨_, rfl, true, .t q td t⟩
  obtain ⟨a, rfl, b', hx⟩ := base
  refine ⟨a, rfl, ?_⟩
  unfold okKey at ok
  split at ok
  · cases ok
  · rename_i c hc
    have hcb : c = b := by
      split at ok
      · cases ok; rfl
      · split at ok
        · cases ok; rfl
        · cases ok
    subst hcb
    refine ⟨?_, hc⟩
    cases ds with
    | nil =>
      cases hx with
      | k q td t =>
        cases t
        cases c with
        | false => exact .k q td .nil
        | true => exact .t q (kd_nil td) .nil
      | t q td t =>
        cases t
        cases c with
        | true => exact .t q td .nil
        | false => exact .k q (td_nil td) .nil
    | cons p ds =>
      simp only at ok
      split at ok
      · rename_i hp
        cases hx with
        | k q td t =>
          have : c = false := by
            cases t with
            | cons r h t => rw [kind_keyD] at hp; exact (Option.some.inj hp).symm
          subst this
          exact .k q td t
        | t q td t =>
          have : c = true := by
            cases t with
            | cons h1 h2 h3 r h t => rw [den_kind h1 h2 h3] at hp; exact (Option.some.inj hp).symm
          subst this
          exact .t q td t
      · cases ok
theorem keyD_of {kd : PyData} (h : kind kd = some false) : ∃ k : Key, kd = keyD k := by
  unfold kind at h
  split at h
  · exact ⟨.inl _, rfl⟩
  · exact ⟨.inr _, rfl⟩
  · split at h
    · split at h <;> cases h
    · cases h
  · cases h
theorem tup_of {kd : PyData} (h : kind kd = some true) : ∃ (ts : List PyData) (k : NestedKey), kd = .tuple ts ∧ nkey kd = some k ∧ k.depth ≤ 8 := by
  unfold kind at h
  split at h
  · cases h
  · cases h
  · split at h
    · split at h
      · exact ⟨_, _, rfl, by assumption, by assumption⟩
      · cases h
    · cases h
  · cases h
theorem key_rel {v : V} {k : Key} {u : Value} (h : DenX P w K H F v (keyD k)) (r : RelV v u) : (mixKind P w).is k u = true := by
  cases k with
  | inl i =>
    obtain rfl := h.int
    exact kV_is (k := .inl i) r
  | inr x =>
    obtain rfl := h.str
    exact kV_is (k := .inr x) r
end
def dInD (k d : PyData) : Option PyData := match d with
  | .dict ds => if (okKey ds k).isSome = true then some (.bool (dkHas ds k)) else none
  | _ => none
def dNotInD (k d : PyData) : Option PyData := match d with
  | .dict ds => if (okKey ds k).isSome = true then some (.bool (!dkHas ds k)) else none
  | _ => none
def dGetD (d k : PyData) : Option PyData := match d with
  | .dict ds => if (okKey ds k).isSome = true then dkGet ds k else none
  | _ => none
theorem isSome_some {α : Type} {o : Option α} (h : o.isSome = true) : ∃ x, o = some x := Option.isSome_iff_exists.mp h
section
variable {X : Cx}
theorem room8 {A : Around} (hu : A.units + 64 < cLine) : (nestedKind X.prog X.w).room A.in1 := by
  show A.units + 1 + 8 < cLine
  omega
theorem op_inD' (hu : X.A.units + 64 < cLine) : OpS X (compareOp .In) dInD := by
  intro pins s σ H x y v u Q I rx ry h
  obtain ⟨F, k, d, z, ht, hx, hy, e, q⟩ := h
  unfold dInD at e
  split at e
  · rename_i ds
    split at e
    · rename_i hok
      cases e
      obtain ⟨b, hb⟩ := isSome_some hok
      obtain ⟨a, rfl, dx, hk⟩ := dx_of hy hb
      obtain rfl : u = Value.ref a := ry
      have fin : ∀ s', Inv X pins σ H s' → EP X pins σ Q (.bool (dkHas ds k)) s' := fun s' I' => ⟨.bl _, H, I', rfl, q _ H (fun _ _ z => z) (.bl _)⟩
      cases dx with
      | k h1 td t =>
        obtain ⟨kk, rfl⟩ := keyD_of hk
        refine wpAny_in_of (key_rel hx rx) td.1 (kd_of I h1 td).mapOf ?_
        rw [(denKV_look kk t).isSome, ← dkHas_get]
        exact fin _ (I.tok _)
      | t h1 td t =>
        obtain ⟨ts, kk, rfl, hk1, hk2⟩ := tup_of hk
        obtain ⟨b, xs, rfl, hq, _⟩ := hx.tupl
        obtain rfl : v = Value.ref b := rx
        have hden : Den X.prog X.w X.K H F (.ref b) (.tuple ts) := by
          cases hx with
          | of h => exact h
          | ow h => cases h
        refine wpAny_in_heap (room8 hu) ⟨hden.nested I hk1 rfl, hk2⟩ td.1 (td_of I h1 td t) ?_
        rw [denKT_any hk1 t]
        exact fin _ (I.tok _)
    · cases e
  · cases e
theorem op_notInD' (hu : X.A.units + 64 < cLine) : OpS X (compareOp .NotIn) dNotInD := by
  intro pins s σ H x y v u Q I rx ry h
  obtain ⟨F, k, d, z, ht, hx, hy, e, q⟩ := h
  unfold dNotInD at e
  split at e
  · rename_i ds
    split at e
    · rename_i hok
      cases e
      obtain ⟨b, hb⟩ := isSome_some hok
      obtain ⟨a, rfl, dx, hk⟩ := dx_of hy hb
      obtain rfl : u = Value.ref a := ry
      have fin : ∀ s', Inv X pins σ H s' → EP X pins σ Q (.bool (!dkHas ds k)) s' := fun s' I' => ⟨.bl _, H, I', rfl, q _ H (fun _ _ z => z) (.bl _)⟩
      cases dx with
      | k h1 td t =>
        obtain ⟨kk, rfl⟩ := keyD_of hk
        refine wpAny_notIn_of (key_rel hx rx) td.1 (kd_of I h1 td).mapOf ?_
        rw [(denKV_look kk t).isSome, ← dkHas_get]
        exact fin _ (I.tok _)
      | t h1 td t =>
        obtain ⟨ts, kk, rfl, hk1, hk2⟩ := tup_of hk
        obtain ⟨b, xs, rfl, hq, _⟩ := hx.tupl
        obtain rfl : v = Value.ref b := rx
        have hden : Den X.prog X.w X.K H F (.ref b) (.tuple ts) := by
          cases hx with
          | of h => exact h
          | ow h => cases h
        refine wpAny_notIn_heap (room8 hu) ⟨hden.nested I hk1 rfl, hk2⟩ td.1 (td_of I h1 td t) ?_
        rw [denKT_any hk1 t]
        exact fin _ (I.tok _)
    · cases e
  · cases e
theorem dict_ty {pins : List (Addr × Obj)} {σ : L2.St} {H : Hp} {s : Shared} {F : Fb} {a : Addr} {ds : List (PyData × PyData)} {b : Bool} (I : Inv X pins σ H s) (h : DX X.prog X.w X.K H F a ds b) :
    s.TypeIs (.ref a) "dict" ∧ (∀ c, Value.ref a = .ref c → ∃ ob, s.heap.get? c = some ob ∧ ob.dict = none) ∧ (a == sysModules) = false := by
  have z : ∃ o, s.heap.get? a = some o ∧ o.ExactDict ∧ (a == sysModules) = false := by
    cases h with
    | k h1 td t => exact ⟨_, (I.hok a _ h1).1, td.2.1, td.1⟩
    | t h1 td t => exact ⟨_, (I.hok a _ h1).1, td.2.1, td.1⟩
  obtain ⟨o, e, ex, hs⟩ := z
  refine ⟨⟨o, e, ex.1⟩, fun c q => ?_, hs⟩
  cases q
  exact ⟨o, e, ex.2.1⟩
theorem get_dict {pins : List (Addr × Obj)} {σ : L2.St} {H : Hp} {s : Shared} {F : Fb} {a : Addr} {ds : List (PyData × PyData)} {b : Bool} {x : V} {k d : PyData} {u : Value} {Q : VK} {A : Around} {E : Value → Shared → Prop} (hu : A.units + 64 < cLine) (I : Inv X pins σ H s) (h : DX X.prog X.w X.K H F a ds b) (hk : kind k = some b)
    (hx : DenX X.prog X.w X.K H F x k) (rx : RelV x u) (e : dkGet ds k = some d) (q : ∀ v H', Ext H H' → Den X.prog X.w X.K H' F v d → Q v H') : wpAny (model X.prog X.w) A (getItem (.ref a) u) (EP X pins σ Q) E s := by
  cases h with
  | k h1 td t =>
    obtain ⟨kk, rfl⟩ := keyD_of hk
    rcases denKV_look kk t with ⟨_, z⟩ | ⟨u', v', d', l1, l2, r, dn⟩
    · rw [e] at z; cases z
    · rw [e] at l2
      cases l2
      exact wpAny_getItem_of (key_rel hx rx) (kd_of I h1 td).mapOf l1 ⟨v', H, I.tok _, r, q v' H (fun _ _ z => z) dn⟩
  | t h1 td t =>
    obtain ⟨ts, kk, rfl, hk1, hk2⟩ := tup_of hk
    obtain ⟨b, xs, rfl, hq, _⟩ := hx.tupl
    obtain rfl : u = Value.ref b := rx
    have hden : Den X.prog X.w X.K H F (.ref b) (.tuple ts) := by
      cases hx with
      | of h => exact h
      | ow h => cases h
    rcases denKT_look hk1 t with ⟨_, z⟩ | ⟨u', v', d', l1, l2, r, dn⟩
    · rw [e] at z; cases z
    · rw [e] at l2
      cases l2
      obtain ⟨p, hp, hp2⟩ := Option.map_eq_some_iff.mp l1
      refine wpAny_getItem_heap (knd := nestedKind X.prog X.w) (by show A.units + 1 + 8 < cLine; omega) ⟨hden.nested I hk1 rfl, hk2⟩ (td_of I h1 td t) hp ?_
      rw [hp2]
      exact ⟨v', H, I.tok _, r, q v' H (fun _ _ z => z) dn⟩
theorem ix_dict (hu : X.A.units + 64 < cLine) : IxS X dGetD := by
  intro value slice pins s σ H x y v u Q I rx ry h hs
  obtain ⟨F, d, k, z, ht, hx, hy, e, q⟩ := h
  unfold dGetD at e
  split at e
  · rename_i ds
    split at e
    · rename_i hok
      obtain ⟨b, hb⟩ := isSome_some hok
      obtain ⟨a, rfl, dx, hk⟩ := dx_of hx hb
      obtain rfl : v = Value.ref a := rx
      exact tail_any (dict_ty I dx).1 slot_dict_getitem.lookup (get_dict hu I dx hk hy ry e q) hs
    · cases e
  · cases e
/-- d.get(k), d.get(k, x) -/
def eGet (i : Nat) (f : EF) : EF := fun ρ => (rVar i ρ).bind fun _ => (f ρ).bind fun q => (rVar i q.2).bind fun p => match p.1 with
  | .dict ds => if (okKey ds q.1).isSome = true then some ((dkGet ds q.1).getD .none, q.2) else none
  | _ => none
end
end EV
namespace EV
open PySem PySem.Spec PyProof.Rows L2

/-! ### containers changed in place -/
def dApp (c d : PyData) : Option PyData := match c with
  | .list ds => if ds.length < 100000 then some (.list (ds ++ [d])) else none
  | _ => none
def dExt (c d : PyData) : Option PyData := match c, d with
  | .list ds, .list es => if ds.length + es.length < 100000 then some (.list (ds ++ es)) else none
  | _, _ => none
def dSet (c k d : PyData) : Option PyData := match c with
  | .list ds => (match k with
    | .int i => (ixN ds.length i).map fun j => .list (ds.set j d)
    | _ => none)
  | .dict ds => if (okKey ds k).isSome = true then (if ds.length < 100000 then some (.dict (dkPut ds k d)) else none) else none
  | _ => none
/-- x.append(e), x.extend(e) -/
def isL (d : PyData) : Bool := match d with
  | .list _ => true
  | _ => false
def eMut (o : PyData → PyData → Option PyData) (i : Nat) (f : EF) : EF := fun ρ => (rVar i ρ).bind fun p => if isL p.1 = true then (f ρ).bind fun q => (match q.2[i]? with
  | some (.ow c) => (o c q.1).map fun c' => (.none, q.2.set i (.ow c'))
  | _ => none) else none
def rMut (P : Program) (w : World) (K : PySem.W.Frag) (o : PyData → PyData → Option PyData) : V → List V → Hp → VK → Prop := fun x vs H Q => ∃ (F : Fb) (a : Addr) (y : V) (c d c' : PyData), x = .ref a ∧ vs = [y] ∧ (∀ a, F a → ∃ o, H a = some o) ∧ F a ∧
  Own P w K H F a c ∧ Den P w K H F y d ∧ o c d = some c' ∧ ∀ u, Own P w K (upd H a u) F a c' → Q .non (upd H a u)
abbrev MtS (X : Cx) (id : String) (o : PyData → PyData → Option PyData) : Prop := MtR X id (rMut X.prog X.w X.K o)
section
variable {P : Program} {w : World} {K : PySem.W.Frag} {te : TE} {f : EF} {o : PyData → PyData → Option PyData} {i : Nat} {H : Hp} {F : Fb}
theorem denAll_upd {a : Addr} {u : HO} {vs : List V} {ds : List PyData} (h : DenAll P w K H F vs ds) (ha : F a) : DenAll P w K (upd H a u) F vs ds :=
  h.step (fun x o q n => by rw [upd_ne fun z => n (by rw [z]; exact ha)]; exact q) fun _ _ _ n => n
theorem den_upd {a : Addr} {u : HO} {v : V} {d : PyData} (h : Den P w K H F v d) (ha : F a) : Den P w K (upd H a u) F v d :=
  h.step (fun x o q n => by rw [upd_ne fun z => n (by rw [z]; exact ha)]; exact q) fun _ _ _ n => n
theorem denKV_upd {a : Addr} {u : HO} {vs : List (Key × Value)} {ds : List (PyData × PyData)} (h : DenKV P w K H F vs ds) (ha : F a) : DenKV P w K (upd H a u) F vs ds :=
  h.step (fun x o q n => by rw [upd_ne fun z => n (by rw [z]; exact ha)]; exact q) fun _ _ _ n => n
theorem denKT_upd {a : Addr} {u : HO} {vs : List (NestedKey × Addr × Value)} {ds : List (PyData × PyData)} (h : DenKT P w K H F vs ds) (ha : F a) : DenKT P w K (upd H a u) F vs ds :=
  h.step (fun x o q n => by rw [upd_ne fun z => n (by rw [z]; exact ha)]; exact q) fun _ _ _ n => n
theorem evR_mut (hf : EvR P w K te f) : EvR P w K (tBM K "list" (rMut P w K o) (tVar i) (tCons te tNil)) (eMut o i f) := by
  intro A σ H ρ d ρ' Q R e k
  unfold eMut at e
  obtain ⟨⟨d0, ρ0⟩, e0, e⟩ := Option.bind_eq_some_iff.mp e
  split at e
  · rename_i hl
    obtain ⟨⟨d2, ρ2⟩, e1, e⟩ := Option.bind_eq_some_iff.mp e
    obtain ⟨_, v0, hv, dx⟩ := R.read e0
    have ty : tyV K "list" v0 H := by
      cases d0 with
      | list ds =>
        obtain ⟨a, xs, rfl, r, _⟩ := dx.all
        exact .inl ⟨rfl, xs, r⟩
      | _ => cases hl
    refine ⟨v0, hv, ty, hf A σ H ρ d2 ρ2 _ R e1 fun y H2 R2 p2 n2 => ?_⟩
    simp only at e
    split at e
    · rename_i c hc
      obtain ⟨c', e2, e⟩ := Option.map_eq_some_iff.mp e
      cases e
      obtain ⟨a, h1, h2, h3⟩ := R2.ow i _ hc
      rw [hv] at h1
      cases h1
      refine ⟨FbS A σ ρ2, a, y, c, d2, c', rfl, rfl, R2.ftrk, .inr ⟨i, c, hc, hv⟩, h3, n2, e2, fun u hn => ?_⟩
      obtain ⟨R', p'⟩ := R2.mut hc hv hn
      exact k .non _ R' (p2.trans p') .non
    · cases e
  · cases e
end
section
variable {X : Cx}
theorem list_extendW (l : Addr) (items : Array Value) (n : Nat) (b : Addr) (items2 : Array Value) (n2 : Nat) (sl2 : Array (Option Value)) (hc0 : ¬(!items.isEmpty && Builtin.List.listTooLong (items.size + items2.size)) = true) (hc1 : items.size ≤ sizeLine) (hs2 : items.size + items2.size ≤ sizeLine + 1) :
    Meets (Builtin.«list.extend» ⟨[.ref l, .ref b], []⟩) (fun _ R s => s.heap.get? l = some { cls := .type "list", dict := none, data := .seq items n, slots := #[] } ∧ s.heap.get? b = some { cls := .type "list", dict := none, data := .seq items2 n2, slots := sl2 } ∧ R (.ok (.ret Value.none)) { s with heap := s.heap.update l (Obj.mapSeq fun x => x ++ items2), toks := s.toks }) :=
  .of_wp fun prog w A R s h => by
    obtain ⟨hp, g, d, tk, os⟩ := s; obtain ⟨hl, hb, h⟩ := h; have f1 := AutoSeq1.idx_int; have f2 := AutoSeq1.sub_tuple_tuple; have f3 := AutoSeq1.sub_list_list; have f4 := AutoSeq1.sub_tuple_list; have f5 := AutoSeq1.sub_list_tuple;
    have hz' : (items ++ items2).size ≤ sizeLine + 1 := by rw [Array.size_append]; exact hs2
    wp_walk using (wpAny_updateSeq hl rfl (hz := hc1) (_hz' := hz')), wpAny_loadPart' hl, wpAny_loadPart' hb; exact ⟨_, rfl, h⟩
theorem list_obj {h : Heap} {a : Addr} {its : Array Value} (p : PlainL h a its) : ∃ n sl, h.get? a = some { cls := .type "list", dict := none, data := .seq its n, slots := sl } := by
  obtain ⟨o, n, ho, hc, hdn, hdt⟩ := p
  cases o
  simp only at hc hdn hdt
  subst hc hdn hdt
  exact ⟨n, _, ho⟩
theorem mt_app : MtS X "list.append" dApp := by
  intro pins s σ H x xs v us Q I rx rv h
  obtain ⟨F, a, y, c, d, c', rfl, rfl, ht, hF, ho, hd, e, q⟩ := h
  cases ho with
  | lst h1 t =>
    simp only [dApp] at e
    split at e
    · rename_i hl
      cases e
      exact mt_append pins s σ H _ _ v us Q I rx rv ⟨a, _, y, rfl, rfl, h1, by rw [t.length]; exact lt_line (Nat.lt_trans hl (by decide)), q _ (.lst upd_same ((denAll_upd t hF).append (.cons (den_upd hd hF) .nil)))⟩
    · cases e
  | dk => cases e
  | dt => cases e
theorem mt_ext : MtS X "list.extend" dExt := by
  intro pins s σ H x xs v us Q I rx rv h
  obtain ⟨F, a, y, c, d, c', rfl, rfl, ht, hF, ho, hd, e, q⟩ := h
  cases ho with
  | lst h1 t =>
    cases d with
    | list ds2 =>
      obtain ⟨a2, xs2, rfl, hq2, t2⟩ := hd.x.all
      simp only [dExt] at e
      split at e
      · rename_i hl
        cases e
        cases rx
        obtain ⟨u, rfl, ru⟩ := rv.one
        cases ru
        obtain ⟨z, its, n, r1, hl1, e1⟩ := I.lstM h1
        obtain ⟨its2, r2, pl2, z2⟩ := I.list hq2
        obtain ⟨n2, sl2, e2⟩ := list_obj pl2
        have l1 := t.length
        have l2 := t2.length
        have l3 := r2.length
        have hsz : its.toArray.size + its2.toArray.size ≤ sizeLine := by
          rw [List.size_toArray, List.size_toArray]
          exact le_line (by omega)
        have hlong : ¬ (!its.toArray.isEmpty && Builtin.List.listTooLong (its.toArray.size + its2.toArray.size)) = true := by
          rw [notLongL hsz, Bool.and_false]
          exact Bool.false_ne_true
        refine call_meets PySem.F.slot_list_extend ⟨_, e1, rfl⟩ PySem.F.entry_list_extend (PySem.F.args_list_extend_2 _ _)
          (list_extendW _ its.toArray n _ its2.toArray n2 sl2 hlong (by rw [List.size_toArray]; omega) (by omega)) ⟨e1, e2, ?_⟩
        refine ⟨.non, _, I.lset (its' := its ++ its2) h1 e1 (by simp) (r1.append r2) (by rw [List.length_append]; exact le_line (by omega)), rfl, q _ (.lst upd_same ((denAll_upd t hF).append (denAll_upd t2 hF)))⟩
      · cases e
    | _ => cases e
  | dk => cases e
  | dt => cases e
theorem ixN_lt {n : Nat} {i : Int} {j : Nat} (h : ixN n i = some j) : j < n := (ixN_seq h).2.1
/-- c[k] = d -/
def rSetO (P : Program) (w : World) (K : PySem.W.Frag) : V → V → V → Hp → (Hp → Prop) → Prop := fun o i v H Q => ∃ (F : Fb) (a : Addr) (c k d c' : PyData), o = .ref a ∧ (∀ a, F a → ∃ o, H a = some o) ∧ F a ∧
  Own P w K H F a c ∧ DenX P w K H F i k ∧ Den P w K H F v d ∧ dSet c k d = some c' ∧ ∀ u, Own P w K (upd H a u) F a c' → Q (upd H a u)
theorem dx_own {H : Hp} {F : Fb} {a : Addr} {ds : List (PyData × PyData)} {kd : PyData} {b : Bool} (h : Own X.prog X.w X.K H F a (.dict ds)) (ok : okKey ds kd = some b) : DX X.prog X.w X.K H F a ds b ∧ kind kd = some b := by
  obtain ⟨a', e, r⟩ := dx_of (.ow h) ok
  cases e
  exact r
theorem set_own (hu : X.A.units + 64 < cLine) : PSet X (rSetO X.prog X.w X.K) := by
  intro pins s σ H o i v ov iv u Q I ro ri rv h
  obtain ⟨F, a, c, k, d, c', rfl, ht, hF, ho, hi, hd, e, q⟩ := h
  cases c with
  | list ds =>
    simp only [dSet] at e
    cases ho with
    | lst h1 t =>
      split at e
      · rename_i n
        obtain ⟨j, hj, e⟩ := Option.map_eq_some_iff.mp e
        cases e
        obtain rfl := hi.int
        refine set_list pins s σ H _ _ v ov iv u Q I ro ri rv ⟨a, _, n, j, rfl, rfl, h1, by rw [t.length]; exact hj, q _ (.lst upd_same ((denAll_upd t hF).set (den_upd hd hF) j))⟩
      · cases e
  | dict ds =>
    simp only [dSet] at e
    split at e
    · rename_i hok
      split at e
      · rename_i hlen
        cases e
        obtain ⟨b, hb⟩ := isSome_some hok
        obtain ⟨dx, hk⟩ := dx_own ho hb
        obtain rfl : ov = Value.ref a := ro
        cases dx with
        | @k o kvs h1 td t =>
          obtain ⟨kk, rfl⟩ := keyD_of hk
          have hl := denKV_len t
          refine wpAny_setItem_pairs (hsz := by rw [hl]; exact le_line (by omega)) (key_rel (P := X.prog) (w := X.w) hi ri) (kd_of I h1 td) fun h' dd' hs => ?_
          obtain ⟨o', es, ep, e1, e2, e3, e4, e5, e6⟩ := dd'
          refine ⟨_, I.write (x := a) (e := a) (by rw [h1]; exact True.intro) (.inl rfl) (fun b q hb z => (hs.2 b hb).trans z) ⟨o', e1⟩ (objIs_ok e1), q _ (.dk upd_same ⟨td.1, e2, ⟨es, ep, e3, e4, e5⟩, e6, ?_⟩ (denKV_put kk (denKV_upd t hF) rv (den_upd hd hF)))⟩
          have : (stored kvs kk u).length ≤ kvs.length + 1 := by
            unfold stored
            split
            · rw [List.length_map]; omega
            · rw [List.length_append]; simp
          exact le_line (by omega)
        | @t o xs h1 td t =>
          obtain ⟨ts, kk, rfl, hk1, hk2⟩ := tup_of hk
          obtain ⟨b, ys, rfl, hq, _⟩ := hi.tupl
          obtain rfl : iv = Value.ref b := ri
          have hden : Den X.prog X.w X.K H F (.ref b) (.tuple ts) := by
            cases hi with
            | of h => exact h
            | ow h => cases h
          have hl := denKT_len t
          refine wpAny_setItem_heap (knd := nestedKind X.prog X.w) (hsz := by rw [hl]; exact le_line (by omega)) (by show X.A.units + 1 + 8 < cLine; omega) ⟨hden.nested I hk1 rfl, hk2⟩ (td_of I h1 td t) fun h' dd' hs => ?_
          obtain ⟨o', es, ep, e1, e2, e3, e4, _, e6⟩ := dd'
          refine ⟨_, I.write (x := a) (e := a) (by rw [h1]; exact True.intro) (.inl rfl) (fun b q hb z => (hs.2 b hb).trans z) ⟨o', e1⟩ (objIs_ok e1), q _ (.dt upd_same ⟨td.1, e2, ⟨es, ep, e3, e4⟩, e6, ?_⟩ (denKT_put hk1 hk2 (den_upd hden hF) (denKT_upd t hF) rv (den_upd hd hF)))⟩
          have := storedH_length xs kk b u
          exact le_line (by omega)
      · cases e
    · cases e
  | _ => cases e
end
/-- slot[k] = .. as a target -/
def gS (i : Nat) (g : EF) : GF := fun d ρ => (rVar i ρ).bind fun _ => (g ρ).bind fun q => match q.2[i]? with
  | some (.ow c) => (dSet c q.1 d).map fun c' => q.2.set i (.ow c')
  | _ => none
/-- slot[k] op= e -/
def sAugS (o : PyData → PyData → Option PyData) (i : Nat) (g f : EF) : SF := fun ρ => (rVar i ρ).bind fun _ => (g ρ).bind fun q => (rVar i q.2).bind fun c => (dGetD c.1 q.1).bind fun x => (f q.2).bind fun y => match y.2[i]? with
  | some (.ow c') => (o x y.1).bind fun z => (dSet c' q.1 z).map fun c2 => (.nx, y.2.set i (.ow c2))
  | _ => none
/-- x op= e -/
def sAug (o : PyData → PyData → Option PyData) (i : Nat) (f : EF) : SF := fun ρ => (rVar i ρ).bind fun _ => (f ρ).bind fun q => (rVar i q.2).bind fun p => (o p.1 q.1).map fun z => (.nx, q.2.set i (.sh z))
section
variable {P : Program} {w : World} {K : PySem.W.Frag} {J : List Nat} {te tk : TE} {f g : EF} {i : Nat} {o : PyData → PyData → Option PyData}
theorem gvR_s (hg : EvR P w K tk g) : GvR P w K J (gSub (tVar i) tk (rSetO P w K)) (gS i g) := fun A σ H ρ v d ρ' Q R dn e k => by
  unfold gS at e
  obtain ⟨⟨d0, ρ0⟩, e0, e⟩ := Option.bind_eq_some_iff.mp e
  obtain ⟨⟨d2, ρ2⟩, e1, e⟩ := Option.bind_eq_some_iff.mp e
  obtain ⟨_, v0, hv, _⟩ := R.read e0
  refine ⟨v0, hv, hg A σ H ρ d2 ρ2 _ R e1 fun y H2 R2 p2 n2 => ?_⟩
  simp only at e
  split at e
  · rename_i c hc
    obtain ⟨c', e2, e⟩ := Option.map_eq_some_iff.mp e
    cases e
    obtain ⟨a, h1, h2, h3⟩ := R2.ow i _ hc
    rw [hv] at h1
    cases h1
    refine ⟨FbS A σ ρ2, a, c, d2, d, c', rfl, R2.ftrk, .inr ⟨i, c, hc, hv⟩, h3, n2.x, R.den p2.stp dn, e2, fun u hn => ?_⟩
    obtain ⟨R', p'⟩ := R2.mut hc hv hn
    exact k _ _ R' (p2.trans p').stp Agr.refl
  · cases e
end
section
variable {X : Cx} {J : List Nat} {e e2 : Expr} {f g : EF} {pos npos apos cpos p1 p2 : Pos} {i : Nat} {x : Str} {id : String} {o : PyData → PyData → Option PyData}
theorem ev_mut (i : Nat) {name : Str} (slot : PySem.Slot "list" name id) (hty : typeOf (.builtin id) = pure (.type "method_descriptor")) (hm : MtS X id o) (h : EV X e f) (hN : X.N[i]? = some x := by rfl) (hv : Vis X.env.scope x := by first | exact Or.inl rfl | exact Or.inr (Or.inl rfl) | exact Or.inr (Or.inr rfl))
    (hd : (x == ("__debug__" : Str)) = false := by decide) (hcd : (x == ("__classdict__" : Str)) = false := by decide) (hbase : attributeBase (.Name x npos) name X.env (eval (.Name x npos) X.env) = eval (.Name x npos) X.env := by rfl)
    (hfew : ((backTo cpos (starEach [e] X.env)).all (fun x => !x.1) && (backToKw cpos (keywordEach [] X.env)).all (fun x => x.1.isSome)
      && decide ([e].length + ([] : List Keyword).length + (if ([] : List Keyword).isEmpty then 0 else 1) < 30)) = true := by rfl)
    (hline : (apos.endLine == cpos.line) = true := by rfl) (hs : starEach [e] X.env = (false, eval e X.env) :: starEach [] X.env := by rfl) (hplain : (backTo cpos (starEach [] X.env)).any (·.1) = false := by rfl) :
    EV X (.Call (.Attribute (.Name x npos) name apos) [e] [] cpos) (eMut o i f) := let ⟨_, h1, h2⟩ := h; ⟨_, pe_bm PySem.F.plainAttrs_list slot hty hm (pe_var hN hv hd hcd) (pa_cons h1 pa_nil hs) hbase hfew hline hs hplain, evR_mut h2⟩
end
end EV
namespace EV
open PySem PySem.Spec PyProof.Rows L2

/-! ### d.get(k), d.get(k, x) -/
def dGet1 (c k : PyData) : Option PyData := match c with
  | .dict ds => if (okKey ds k).isSome = true then some ((dkGet ds k).getD .none) else none
  | _ => none
def dGet2 (c k x : PyData) : Option PyData := match c with
  | .dict ds => if (okKey ds k).isSome = true then some ((dkGet ds k).getD x) else none
  | _ => none
def isD (d : PyData) : Bool := match d with
  | .dict _ => true
  | _ => false
def eGetV1 (i : Nat) (f : EF) : EF := fun ρ => (rVar i ρ).bind fun p => if isD p.1 = true then (f ρ).bind fun q => (rVar i q.2).bind fun p => (dGet1 p.1 q.1).map fun z => (z, q.2) else none
def eGetV2 (i : Nat) (f g : EF) : EF := fun ρ => (rVar i ρ).bind fun p => if isD p.1 = true then (f ρ).bind fun q => (g q.2).bind fun r => (rVar i r.2).bind fun p => (dGet2 p.1 q.1 r.1).map fun z => (z, r.2) else none
def eGetE2 (e f g : EF) : EF := fun ρ => (e ρ).bind fun p => if isD p.1 = true then (f p.2).bind fun q => (g q.2).bind fun r => (dGet2 p.1 q.1 r.1).map fun z => (z, r.2) else none
def IsDO (P : Program) (w : World) (K : PySem.W.Frag) (x : V) (H : Hp) : Prop := ∃ (a : Addr) (F : Fb) (ds : List (PyData × PyData)) (b : Bool), x = .ref a ∧ DX P w K H F a ds b
def rG1 (P : Program) (w : World) (K : PySem.W.Frag) : V → V → Hp → VK → Prop := fun x y H Q => ∃ (F : Fb) (c k z : PyData), DenX P w K H F x c ∧ DenX P w K H F y k ∧ dGet1 c k = some z ∧ ∀ v, Den P w K H F v z → Q v H
def rG2 (P : Program) (w : World) (K : PySem.W.Frag) : V → V → V → Hp → VK → Prop := fun x y t H Q => ∃ (F : Fb) (c k d z : PyData), DenX P w K H F x c ∧ DenX P w K H F y k ∧ Den P w K H F t d ∧ dGet2 c k d = some z ∧ ∀ v, Den P w K H F v z → Q v H
def tG1 (P : Program) (w : World) (K : PySem.W.Frag) (td ty : TE) : TE := fun σ H Q => td σ H fun x H1 => IsDO P w K x H1 ∧ ty σ H1 fun y H2 => rG1 P w K x y H2 Q
def tG2 (P : Program) (w : World) (K : PySem.W.Frag) (td ty tx : TE) : TE := fun σ H Q => td σ H fun x H1 => IsDO P w K x H1 ∧ ty σ H1 fun y H2 => tx σ H2 fun t H3 => rG2 P w K x y t H3 Q
section
variable {P : Program} {w : World} {K : PySem.W.Frag} {H : Hp} {F : Fb}
theorem isDO_of {v : V} {d : PyData} (h : DenX P w K H F v d) (hd : isD d = true) : IsDO P w K v H := by
  cases d with
  | dict ds =>
    cases h with
    | of h =>
      cases h with
      | dk _ q td t => exact ⟨_, F, ds, false, rfl, .k q td t⟩
      | dt _ q td t => exact ⟨_, F, ds, true, rfl, .t q td t⟩
    | ow h =>
      cases h with
      | dk q td t => exact ⟨_, F, ds, false, rfl, .k q td t⟩
      | dt q td t => exact ⟨_, F, ds, true, rfl, .t q td t⟩
  | _ => cases hd
variable {ty tx te : TE} {e f g : EF} {i : Nat}
theorem evR_gv1 (hf : EvR P w K ty f) : EvR P w K (tG1 P w K (tVar i) ty) (eGetV1 i f) := by
  intro A σ H ρ d ρ' Q R e k
  unfold eGetV1 at e
  obtain ⟨⟨d0, ρ0⟩, e0, e⟩ := Option.bind_eq_some_iff.mp e
  split at e
  · rename_i hd
    obtain ⟨⟨d1, ρ1⟩, e1, e⟩ := Option.bind_eq_some_iff.mp e
    obtain ⟨⟨d2, ρ2⟩, e2, e⟩ := Option.bind_eq_some_iff.mp e
    obtain ⟨z, e3, e⟩ := Option.map_eq_some_iff.mp e
    cases e
    obtain ⟨_, v0, hv, dx⟩ := R.read e0
    refine ⟨v0, hv, isDO_of dx hd, hf A σ H ρ d1 ρ1 _ R e1 fun y H1 R1 p1 n1 => ?_⟩
    obtain ⟨rfl, v', hv', dx'⟩ := R1.read e2
    rw [hv] at hv'
    cases hv'
    exact ⟨FbS A σ _, d2, d1, _, dx', n1.x, e3, fun v dn => k v H1 R1 p1 dn⟩
  · cases e
theorem evR_gv2 (hf : EvR P w K ty f) (hg : EvR P w K tx g) : EvR P w K (tG2 P w K (tVar i) ty tx) (eGetV2 i f g) := by
  intro A σ H ρ d ρ' Q R e k
  unfold eGetV2 at e
  obtain ⟨⟨d0, ρ0⟩, e0, e⟩ := Option.bind_eq_some_iff.mp e
  split at e
  · rename_i hd
    obtain ⟨⟨d1, ρ1⟩, e1, e⟩ := Option.bind_eq_some_iff.mp e
    obtain ⟨⟨d3, ρ3⟩, e3, e⟩ := Option.bind_eq_some_iff.mp e
    obtain ⟨⟨d2, ρ2⟩, e2, e⟩ := Option.bind_eq_some_iff.mp e
    obtain ⟨z, e4, e⟩ := Option.map_eq_some_iff.mp e
    cases e
    obtain ⟨_, v0, hv, dx⟩ := R.read e0
    refine ⟨v0, hv, isDO_of dx hd, hf A σ H ρ d1 ρ1 _ R e1 fun y H1 R1 p1 n1 => hg A σ H1 ρ1 d3 ρ3 _ R1 e3 fun t H3 R3 p3 n3 => ?_⟩
    obtain ⟨rfl, v', hv', dx'⟩ := R3.read e2
    rw [hv] at hv'
    cases hv'
    exact ⟨FbS A σ _, d2, d1, d3, _, dx', (R1.den p3.stp n1).x, n3, e4, fun v dn => k v H3 R3 (p1.trans p3) dn⟩
  · cases e
theorem evR_ge2 (he : EvR P w K te e) (hf : EvR P w K ty f) (hg : EvR P w K tx g) : EvR P w K (tG2 P w K te ty tx) (eGetE2 e f g) := by
  intro A σ H ρ d ρ' Q R e k
  unfold eGetE2 at e
  obtain ⟨⟨d0, ρ0⟩, e0, e⟩ := Option.bind_eq_some_iff.mp e
  split at e
  · rename_i hd
    obtain ⟨⟨d1, ρ1⟩, e1, e⟩ := Option.bind_eq_some_iff.mp e
    obtain ⟨⟨d3, ρ3⟩, e3, e⟩ := Option.bind_eq_some_iff.mp e
    obtain ⟨z, e4, e⟩ := Option.map_eq_some_iff.mp e
    cases e
    refine he A σ H ρ d0 ρ0 _ R e0 fun v0 H0 R0 p0 n0 => ⟨isDO_of n0.x hd, hf A σ H0 ρ0 d1 ρ1 _ R0 e1 fun y H1 R1 p1 n1 => hg A σ H1 ρ1 d3 ρ3 _ R1 e3 fun t H3 R3 p3 n3 => ?_⟩
    exact ⟨FbS A σ _, d0, d1, d3, _, (R0.den (p1.trans p3).stp n0).x, (R1.den p3.stp n1).x, n3, e4, fun v dn => k v H3 R3 ((p0.trans p1).trans p3) dn⟩
  · cases e
end
section
variable {X : Cx}
theorem look_get {pins : List (Addr × Obj)} {σ : L2.St} {H : Hp} {s : Shared} {F : Fb} {x y t : V} {c k d z : PyData} {u iv r : Value} {Q : VK} {A : Around} {E : Value → Shared → Prop} (hu : A.units + 64 < cLine) (I : Inv X pins σ H s)
    (hx : DenX X.prog X.w X.K H F x c) (hy : DenX X.prog X.w X.K H F y k) (ht : Den X.prog X.w X.K H F t d) (e : dGet2 c k d = some z) (rx : RelV x u) (ry : RelV y iv) (rt : RelV t r) (q : ∀ v, Den X.prog X.w X.K H F v z → Q v H) :
    wpAny (model X.prog X.w) A (call (.builtin "dict.get") [u, iv, r]) (EP X pins σ Q) E s ∧ (d = .none → wpAny (model X.prog X.w) A (call (.builtin "dict.get") [u, iv]) (EP X pins σ Q) E s) := by
  unfold dGet2 at e
  split at e
  · rename_i ds
    split at e
    · rename_i hok
      cases e
      obtain ⟨b, hb⟩ := isSome_some hok
      obtain ⟨a, rfl, dx, hk⟩ := dx_of hx hb
      obtain rfl : u = Value.ref a := rx
      cases dx with
      | k h1 td t1 =>
        obtain ⟨kk, rfl⟩ := keyD_of hk
        have dd := kd_of I h1 td
        have fin : ∀ {r' : Value} {t' : V} {d' : PyData} (s' : Shared), Inv X pins σ H s' → RelV t' r' → Den X.prog X.w X.K H F t' d' → (∀ v, Den X.prog X.w X.K H F v ((dkGet ds (keyD kk)).getD d') → Q v H) → EP X pins σ Q ((valueAt _ kk).getD r') s' := fun {r' t' d'} s' I' rt' dt' q' => by
          rcases denKV_look kk t1 with ⟨z1, z2⟩ | ⟨u', v', d'', l1, l2, r2, dn⟩
          · rw [z1]
            exact ⟨t', H, I', rt', q' _ (by rw [z2]; exact dt')⟩
          · rw [l1]
            exact ⟨v', H, I', r2, q' _ (by rw [l2]; exact dn)⟩
        refine ⟨call_meetsIn PySem.F.slot_dict_get dd.typeIs PySem.F.entry_dict_get (PySem.F.args_dict_get_3 _ _ _) (meets_dict_get_default (mixKind X.prog X.w) a (key_rel hy ry) td.1 r) ⟨_, dd.mapOf, fin _ (I.tok _) rt ht q⟩, fun e0 => ?_⟩
        subst e0
        cases ht
        cases rt
        exact call_meetsIn PySem.F.slot_dict_get dd.typeIs PySem.F.entry_dict_get (PySem.F.args_dict_get_2 _ _) (meets_dict_get (mixKind X.prog X.w) a (key_rel hy ry) td.1) ⟨_, dd.mapOf, fin (r' := .none) (t' := .non) _ (I.tok _) rfl .non q⟩
      | t h1 td t1 =>
        obtain ⟨ts, kk, rfl, hk1, hk2⟩ := tup_of hk
        obtain ⟨b, xs, rfl, hq, _⟩ := hy.tupl
        obtain rfl : iv = Value.ref b := ry
        have hden : Den X.prog X.w X.K H F (.ref b) (.tuple ts) := by
          cases hy with
          | of h => exact h
          | ow h => cases h
        have dd := td_of I h1 td t1
        have ki := Den.nested I hden hk1 (u := .ref b) rfl
        have fin : ∀ {r' : Value} {t' : V} {d' : PyData} (s' : Shared), Inv X pins σ H s' → RelV t' r' → Den X.prog X.w X.K H F t' d' → (∀ v, Den X.prog X.w X.K H F v ((dkGet ds (.tuple ts)).getD d') → Q v H) → EP X pins σ Q (((atKey _ kk).map (·.2)).getD r') s' := fun {r' t' d'} s' I' rt' dt' q' => by
          rcases denKT_look hk1 t1 with ⟨z1, z2⟩ | ⟨u', v', d'', l1, l2, r2, dn⟩
          · rw [z1]
            exact ⟨t', H, I', rt', q' _ (by rw [z2]; exact dt')⟩
          · rw [l1]
            exact ⟨v', H, I', r2, q' _ (by rw [l2]; exact dn)⟩
        refine ⟨call_meetsIn PySem.F.slot_dict_get dd.typeIs PySem.F.entry_dict_get (PySem.F.args_dict_get_3 _ _ _) (meetsH_dict_get_default (nestedKind X.prog X.w) a b td.1 r) ⟨room8 hu, kk, _, ⟨ki, hk2⟩, dd, fin _ (I.tok _) rt ht q⟩, fun e0 => ?_⟩
        subst e0
        cases ht
        cases rt
        exact call_meetsIn PySem.F.slot_dict_get dd.typeIs PySem.F.entry_dict_get (PySem.F.args_dict_get_2 _ _) (meetsH_dict_get (nestedKind X.prog X.w) a b td.1) ⟨room8 hu, kk, _, ⟨ki, hk2⟩, dd, fin (r' := .none) (t' := .non) _ (I.tok _) rfl .non q⟩
    · cases e
  · cases e
theorem dGet1_2 {c k : PyData} : dGet1 c k = dGet2 c k .none := by cases c <;> rfl
theorem isDO_at {pins : List (Addr × Obj)} {σ : L2.St} {H : Hp} {s : Shared} {x : V} {u : Value} (I : Inv X pins σ H s) (h : IsDO X.prog X.w X.K x H) (r : RelV x u) : s.TypeIs u "dict" ∧ (∀ b, u = .ref b → ∃ ob, s.heap.get? b = some ob ∧ ob.dict = none) := by
  obtain ⟨a, F, ds, b, rfl, dx⟩ := h
  obtain rfl : u = Value.ref a := r
  obtain ⟨h1, h2, _⟩ := dict_ty I dx
  exact ⟨h1, h2⟩
variable {o e f : Expr} {apos cpos : Pos} {td ty tx : TE}
theorem pe_g1 (hu : X.A.units + 64 < cLine) (ho : PE X o td) (he : PE X e ty) (m : M1 X o "get" apos e cpos) : PE X (.Call (.Attribute o "get" apos) [e] [] cpos) (tG1 X.prog X.w X.K td ty) := by
  refine ⟨fun pins s σ H Q I h => ?_⟩
  refine wpAny_Call_method m.base m.few m.line PySem.F.plainAttrs_dict PySem.F.slot_dict_get PySem.F.type_dict_get (thn (ho.run pins s σ H _ I h) fun u s1 ⟨x, H1, I1, rx, ex, q1⟩ => ?_)
  obtain ⟨t1, t2⟩ := isDO_at I1 ex rx
  refine ⟨t1, t2, ?_⟩
  rw [m.trees]
  refine Calls.callWith_builtin rfl (Calls.evalArgs_plain (Calls.spliced_cons (thn (he.run pins s1 σ H1 _ I1 q1) fun iv s2 ⟨y, H2, I2, ry, F, c, k, z, hx, hy, e4, q2⟩ => Calls.spliced_nil ?_)))
  rw [dGet1_2] at e4
  exact (look_get (t := .non) (r := .none) hu I2 hx hy .non e4 rx ry rfl q2).2 rfl
theorem pe_g2 (hu : X.A.units + 64 < cLine) (ho : PE X o td) (he : PE X e ty) (hf : PE X f tx) (m : M2 X o "get" apos e f cpos) : PE X (.Call (.Attribute o "get" apos) [e, f] [] cpos) (tG2 X.prog X.w X.K td ty tx) := by
  refine ⟨fun pins s σ H Q I h => ?_⟩
  refine wpAny_Call_method m.base m.few m.line PySem.F.plainAttrs_dict PySem.F.slot_dict_get PySem.F.type_dict_get (thn (ho.run pins s σ H _ I h) fun u s1 ⟨x, H1, I1, rx, ex, q1⟩ => ?_)
  obtain ⟨t1, t2⟩ := isDO_at I1 ex rx
  refine ⟨t1, t2, ?_⟩
  rw [m.trees]
  refine Calls.callWith_builtin rfl (Calls.evalArgs_plain (Calls.spliced_cons (thn (he.run pins s1 σ H1 _ I1 q1) fun iv s2 ⟨y, H2, I2, ry, q2⟩ =>
    Calls.spliced_cons (thn (hf.run pins s2 σ H2 _ I2 q2) fun fv s3 ⟨z, H3, I3, rz, F, c, k, d, z', hx, hy, ht, e4, q3⟩ => Calls.spliced_nil ?_))))
  exact (look_get hu I3 hx hy ht e4 rx ry rz q3).1
end
section
variable {X : Cx} {o e f : Expr} {g h l : EF} {apos cpos npos : Pos} {i : Nat} {x : Str}
theorem ev_gv1 (i : Nat) (hu : X.A.units + 64 < cLine) (he : EV X e g) (hN : X.N[i]? = some x := by rfl) (hv : Vis X.env.scope x := by first | exact Or.inl rfl | exact Or.inr (Or.inl rfl) | exact Or.inr (Or.inr rfl)) (hd : (x == ("__debug__" : Str)) = false := by decide) (hcd : (x == ("__classdict__" : Str)) = false := by decide)
    (m : M1 X (.Name x npos) "get" apos e cpos := by exact ⟨rfl, rfl, rfl, rfl⟩) : EV X (.Call (.Attribute (.Name x npos) "get" apos) [e] [] cpos) (eGetV1 i g) := let ⟨_, h1, h2⟩ := he; ⟨_, pe_g1 hu (pe_var hN hv hd hcd) h1 m, evR_gv1 h2⟩
theorem ev_gv2 (i : Nat) (hu : X.A.units + 64 < cLine) (he : EV X e g) (hf : EV X f h) (hN : X.N[i]? = some x := by rfl) (hv : Vis X.env.scope x := by first | exact Or.inl rfl | exact Or.inr (Or.inl rfl) | exact Or.inr (Or.inr rfl)) (hd : (x == ("__debug__" : Str)) = false := by decide) (hcd : (x == ("__classdict__" : Str)) = false := by decide)
    (m : M2 X (.Name x npos) "get" apos e f cpos := by exact ⟨rfl, rfl, rfl, rfl⟩) : EV X (.Call (.Attribute (.Name x npos) "get" apos) [e, f] [] cpos) (eGetV2 i g h) := let ⟨_, h1, h2⟩ := he; let ⟨_, k1, k2⟩ := hf; ⟨_, pe_g2 hu (pe_var hN hv hd hcd) h1 k1 m, evR_gv2 h2 k2⟩
theorem ev_ge2 (hu : X.A.units + 64 < cLine) (ho : EV X o l) (he : EV X e g) (hf : EV X f h) (m : M2 X o "get" apos e f cpos := by exact ⟨rfl, rfl, rfl, rfl⟩) : EV X (.Call (.Attribute o "get" apos) [e, f] [] cpos) (eGetE2 l g h) :=
  let ⟨_, h1, h2⟩ := he; let ⟨_, k1, k2⟩ := hf; let ⟨_, l1, l2⟩ := ho; ⟨_, pe_g2 hu l1 h1 k1 m, evR_ge2 l2 h2 k2⟩
end

/-! ### dicts made -/
def dkMerge (acc : List (PyData × PyData)) (ps : List (PyData × PyData)) : List (PyData × PyData) := ps.foldl (fun a p => dkPut a p.1 p.2) acc
/-- all keys of one kind -/
def kindsAre (b : Bool) (ps : List (PyData × PyData)) : Bool := ps.all fun p => decide (kind p.1 = some b)
def pairsKind (ps : List (PyData × PyData)) : Option Bool := match ps with
  | [] => some false
  | p :: _ => (match kind p.1 with
    | some b => if kindsAre b ps = true then some b else none
    | none => none)
abbrev PF := Rho → Option (List (PyData × PyData) × Rho)
def pNil : PF := fun ρ => some ([], ρ)
def pCons (f g : EF) (r : PF) : PF := fun ρ => (f ρ).bind fun p => (g p.2).bind fun q => (r q.2).map fun t => ((p.1, q.1) :: t.1, t.2)
def eDict (r : PF) : EF := fun ρ => (r ρ).bind fun p => if (pairsKind p.1).isSome = true ∧ p.1.length ≤ 15 then some (.dict (dkMerge [] p.1), p.2) else none
section
variable {P : Program} {w : World} {K : PySem.W.Frag} {H : Hp} {F : Fb}
/-- pairs of values -/
inductive DenP (P : Program) (w : World) (K : PySem.W.Frag) (H : Hp) (F : Fb) : List (V × V) → List (PyData × PyData) → Prop
  | nil : DenP P w K H F [] []
  | cons {x y : V} {a b : PyData} {vs : List (V × V)} {ds : List (PyData × PyData)} : Den P w K H F x a → Den P w K H F y b → DenP P w K H F vs ds → DenP P w K H F ((x, y) :: vs) ((a, b) :: ds)
theorem DenP.step {H' : Hp} {F' : Fb} (k : ∀ a o, H a = some o → ¬ F a → H' a = some o) (f : ∀ a o, H a = some o → ¬ F a → ¬ F' a) : ∀ {vs : List (V × V)} {ds : List (PyData × PyData)}, DenP P w K H F vs ds → DenP P w K H' F' vs ds
  | _, _, .nil => .nil
  | _, _, .cons a b t => .cons (a.step k f) (b.step k f) (DenP.step k f t)
theorem DenP.length : ∀ {vs : List (V × V)} {ds : List (PyData × PyData)}, DenP P w K H F vs ds → vs.length = ds.length
  | _, _, .nil => rfl
  | _, _, .cons _ _ t => congrArg (· + 1) (DenP.length t)
def PvR (P : Program) (w : World) (K : PySem.W.Frag) (t : List (TE × TE)) (f : PF) : Prop := ∀ (A : Fb) (σ : L2.St) (H : Hp) (ρ : Rho) (d : List (PyData × PyData)) (ρ' : Rho) (Q : List (V × V) → Hp → Prop), RS P w K A σ H ρ → f ρ = some (d, ρ') →
  (∀ v H', RS P w K A σ H' ρ' → Pe σ H ρ H' ρ' → DenP P w K H' (FbS A σ ρ') v d → Q v H') → tPairs t σ H Q
theorem pvR_nil : PvR P w K [] pNil := by
  intro A σ H ρ d ρ' Q R e k
  cases e
  exact k [] H R Pe.refl .nil
theorem pvR_cons {ta tb : TE} {t : List (TE × TE)} {f g : EF} {r : PF} (hf : EvR P w K ta f) (hg : EvR P w K tb g) (hr : PvR P w K t r) : PvR P w K ((ta, tb) :: t) (pCons f g r) := by
  intro A σ H ρ d ρ' Q R e k
  unfold pCons at e
  obtain ⟨⟨d1, ρ1⟩, e1, e⟩ := Option.bind_eq_some_iff.mp e
  obtain ⟨⟨d2, ρ2⟩, e2, e⟩ := Option.bind_eq_some_iff.mp e
  obtain ⟨⟨d3, ρ3⟩, e3, e⟩ := Option.map_eq_some_iff.mp e
  cases e
  refine hf A σ H ρ d1 ρ1 _ R e1 fun v1 H1 R1 p1 n1 => hg A σ H1 ρ1 d2 ρ2 _ R1 e2 fun v2 H2 R2 p2 n2 => hr A σ H2 ρ2 d3 ρ3 _ R2 e3 fun v3 H3 R3 p3 n3 => ?_
  exact k _ H3 R3 ((p1.trans p2).trans p3) (.cons (R1.den (p2.trans p3).stp n1) (R2.den p3.stp n2) n3)
/-- the pairs as entries -/
theorem pairs_k {vs : List (V × V)} {ws : List (Value × Value)} {ds : List (PyData × PyData)} (h : DenP P w K H F vs ds) (r : VV vs ws) (hk : kindsAre false ds = true) : ∃ rs : List (Key × Value), Carries (mixKind P w) ws rs ∧ DenKV P w K H F rs ds := by
  induction h generalizing ws with
  | nil => cases r; exact ⟨[], trivial, .nil⟩
  | @cons x y a b vs ds h1 h2 t ih =>
    cases r with
    | @cons _ q _ qs rr rt =>
      unfold kindsAre at hk
      rw [List.all_cons, Bool.and_eq_true] at hk
      obtain ⟨k, rfl⟩ := keyD_of (of_decide_eq_true hk.1)
      obtain ⟨rs, c, d⟩ := ih rt hk.2
      obtain ⟨q1, q2⟩ := q
      exact ⟨(k, q2) :: rs, ⟨key_rel h1.x rr.1, rfl, c⟩, .cons rr.2 h2 d⟩
theorem merged_k {rs acc : List (Key × Value)} {ds accd : List (PyData × PyData)} (h : DenKV P w K H F rs ds) (h0 : DenKV P w K H F acc accd) : DenKV P w K H F (merged acc rs) (dkMerge accd ds) := by
  induction rs generalizing acc accd ds with
  | nil => cases h; exact h0
  | cons p rs ih =>
    cases h with
    | @cons k u v d _ ds r h t =>
      have q : DenKV P w K H F (merged (stored acc k u) rs) (dkMerge (dkPut accd (keyD k) d) ds) := ih t (denKV_put k h0 r h)
      exact q
theorem dkPut_len (ds : List (PyData × PyData)) (k v : PyData) : (dkPut ds k v).length ≤ ds.length + 1 := by
  unfold dkPut
  split
  · rw [List.length_map]; omega
  · rw [List.length_append]; simp
theorem dkMerge_len (ps acc : List (PyData × PyData)) : (dkMerge acc ps).length ≤ acc.length + ps.length := by
  induction ps generalizing acc with
  | nil => exact Nat.le_refl _
  | cons p ps ih =>
    refine Nat.le_trans (ih (dkPut acc p.1 p.2)) ?_
    have := dkPut_len acc p.1 p.2
    rw [List.length_cons]
    omega
end
section
variable {X : Cx} {pins : List (Addr × Obj)} {σ : L2.St} {H : Hp} {s : Shared} {F : Fb}
theorem pairs_t (I : Inv X pins σ H s) {vs : List (V × V)} {ws : List (Value × Value)} {ds : List (PyData × PyData)} (h : DenP X.prog X.w X.K H F vs ds) (r : VV vs ws) (hk : kindsAre true ds = true) :
    ∃ rs : List (NestedKey × Addr × Value), CarriesH (nestedKind X.prog X.w) s.heap ws rs ∧ DenKT X.prog X.w X.K H F rs ds := by
  induction h generalizing ws with
  | nil => cases r; exact ⟨[], trivial, .nil⟩
  | @cons x y a b vs ds h1 h2 t ih =>
    cases r with
    | @cons _ q _ qs rr rt =>
      unfold kindsAre at hk
      rw [List.all_cons, Bool.and_eq_true] at hk
      obtain ⟨ts, kk, rfl, hk1, hk2⟩ := tup_of (of_decide_eq_true hk.1)
      obtain ⟨rs, c, d⟩ := ih rt hk.2
      obtain ⟨q1, q2⟩ := q
      obtain ⟨b', xs, rfl, _, _⟩ := h1.x.tupl
      obtain rfl : q1 = Value.ref b' := rr.1
      exact ⟨(kk, b', q2) :: rs, ⟨rfl, rfl, ⟨h1.nested I hk1 rfl, hk2⟩, c⟩, .cons h1 hk1 hk2 rr.2 h2 d⟩
theorem merged_t {P : Program} {w : World} {K : PySem.W.Frag} {rs acc : List (NestedKey × Addr × Value)} {ds accd : List (PyData × PyData)} (h : DenKT P w K H F rs ds) (h0 : DenKT P w K H F acc accd) : DenKT P w K H F (storedAllH acc rs) (dkMerge accd ds) := by
  induction rs generalizing acc accd ds with
  | nil => cases h; exact h0
  | cons p rs ih =>
    cases h with
    | @cons k b u v kd d _ ds h1 h2 h3 r h t =>
      have q : DenKT P w K H F (storedAllH (storedH acc k b u) rs) (dkMerge (dkPut accd kd d) ds) := ih t (denKT_put h2 h3 h1 h0 r h)
      exact q
theorem dk0_ok {P : Program} {w : World} {H : Hp} (h : Heap) (hb : sysModules < h.objs.size) : KD P w h.objs.size { cls := .type "dict", data := .dict #[] } [] :=
  ⟨beq_eq_false_iff_ne.mpr (Nat.ne_of_gt hb), ⟨rfl, rfl, rfl⟩, ⟨#[], 0, rfl, (fun e he => by simp at he), .nil⟩, List.nodup_nil, Nat.zero_le _⟩
/-- {k: v, ..} -/
def tDictX (P : Program) (w : World) (K : PySem.W.Frag) (trs : List (TE × TE)) : TE := fun σ H Q => ∀ (p : Addr) (o0 : Obj), H p = none → KD P w p o0 [] → tPairs trs σ (upd H p (ObjIs p o0)) fun ps H2 => H2 p = some (ObjIs p o0) ∧
  ∃ (F : Fb) (ds : List (PyData × PyData)) (b : Bool), F p ∧ DenP P w K H2 F ps ds ∧ kindsAre b ds = true ∧ ds.length ≤ 15 ∧ ∀ u, Own P w K (upd H2 p u) F p (.dict (dkMerge [] ds)) → Q (.ref p) (upd H2 p u)
theorem storedAllH_len {P : Program} {w : World} {K : PySem.W.Frag} {H : Hp} {F : Fb} {rs acc : List (NestedKey × Addr × Value)} {ds : List (PyData × PyData)} (h : DenKT P w K H F rs ds) : (storedAllH acc rs).length ≤ acc.length + ds.length := by
  induction rs generalizing acc ds with
  | nil => cases h; exact Nat.le_refl _
  | cons p rs ih =>
    cases h with
    | @cons k b u v kd d _ ds' h1 h2 h3 r h t =>
      have q := ih (acc := storedH acc k b u) t
      have z := storedH_length acc k b u
      refine Nat.le_trans q ?_
      rw [List.length_cons]
      omega
theorem merged_len {P : Program} {w : World} {K : PySem.W.Frag} {H : Hp} {F : Fb} {rs acc : List (Key × Value)} {ds : List (PyData × PyData)} (h : DenKV P w K H F rs ds) : (merged acc rs).length ≤ acc.length + ds.length := by
  induction rs generalizing acc ds with
  | nil => cases h; exact Nat.le_refl _
  | cons p rs ih =>
    cases h with
    | @cons k u v d _ ds' r h t =>
      have q := ih (acc := stored acc k u) t
      have z := stored_length_le acc k u
      refine Nat.le_trans q ?_
      rw [List.length_cons]
      omega
theorem pe_dictX {pos : Pos} {keys : List (Option Expr)} {values : List Expr} {trs : List (TE × TE)} (hu : X.A.units + 64 < cLine) (h : PPs X pos keys values trs) (hall : keys.all (·.isSome) = true) (hl : keys.length = values.length) (h0 : keys ≠ []) (h15 : keys.length ≤ 15) :
    PE X (.Dict keys values pos) (tDictX X.prog X.w X.K trs) := by
  refine ⟨fun pins s σ H Q I q => ?_⟩
  have hn := I.hok.fresh (Nat.le_refl s.heap.objs.size)
  have new : (s.heap.push { cls := .type "dict", data := .dict #[] }).get? s.heap.objs.size = some { cls := .type "dict", data := .dict #[] } := Heap.get?_push_size _ rfl
  have I1 := I.laid (a := s.heap.objs.size) (o := ObjIs s.heap.objs.size { cls := .type "dict", data := .dict #[] }) (h' := s.heap.push { cls := .type "dict", data := .dict #[] }) (t' := s.toks) (fun _ _ q => Heap.get?_push_of_some _ q) (Nat.le_refl _) (objIs_ok new)
  have kd0 : KD X.prog X.w s.heap.objs.size { cls := .type "dict", data := .dict #[] } [] := dk0_ok (H := H) s.heap I.big
  refine wpAny_Dict_any hall hl h0 h15 (wpAny_mono (h.run pins _ σ _ _ I1 (q _ _ hn kd0)) (fun vs s1 k => ?_) fun _ _ e => e)
  obtain ⟨ps, H2, I2, rr, hp, F, ds, b, hF, dp, hk, hl15, q2⟩ := k
  unfold storeAll
  cases b with
  | false =>
    obtain ⟨rs, c, dn⟩ := pairs_k dp rr hk
    have lr := denKV_len dn
    refine wpAny_storeAll (knd := mixKind X.prog X.w) vs rs [] s1 _ c (kd_of I2 hp kd0) (le_line (by rw [lr, List.length_nil]; omega)) fun h' dd' hs => ?_
    obtain ⟨o', es, ep, e1, e2, e3, e4, e5, e6⟩ := dd'
    exact ⟨.ref s.heap.objs.size, _, I2.write (x := s.heap.objs.size) (e := s.heap.objs.size) (by rw [hp]; exact True.intro) (.inl rfl) (fun b q hb z => (hs.2 b hb).trans z) ⟨o', e1⟩ (objIs_ok e1), rfl,
      q2 _ (.dk upd_same ⟨kd0.1, e2, ⟨es, ep, e3, e4, e5⟩, e6, le_line (Nat.le_trans (merged_len dn) (by rw [List.length_nil]; omega))⟩ (merged_k (denKV_upd dn hF) .nil))⟩
  | true =>
    obtain ⟨rs, c, dn⟩ := pairs_t I2 dp rr hk
    have lr := denKT_len dn
    refine wpAny_storeAllH (knd := nestedKind X.prog X.w) (show X.A.units + 8 < cLine by omega) vs rs [] s1 _ c (td_of I2 hp (kd_nil kd0) (.nil : DenKT X.prog X.w X.K H2 F [] [])) (le_line (by rw [lr, List.length_nil]; omega)) fun h' tk dd' hs => ?_
    obtain ⟨o', es, ep, e1, e2, e3, e4, e5, e6⟩ := dd'
    exact ⟨.ref s.heap.objs.size, _, I2.write (x := s.heap.objs.size) (e := s.heap.objs.size) (by rw [hp]; exact True.intro) (.inl rfl) (fun b q hb z => (hs.2 b hb).trans z) ⟨o', e1⟩ (objIs_ok e1), rfl,
      q2 _ (.dt upd_same ⟨kd0.1, e2, ⟨es, ep, e3, e4⟩, e6, le_line (Nat.le_trans (storedAllH_len dn) (by rw [List.length_nil]; omega))⟩ (merged_t (denKT_upd dn hF) .nil))⟩
variable {P : Program} {w : World} {K : PySem.W.Frag}
theorem RS.prot {B : Fb} {σ : L2.St} {H : Hp} {ρ : Rho} {p : Addr} (R : RS P w K B σ H ρ) (hp : B p) (u : HO) : RS P w K B σ (upd H p u) ρ where
  len := R.len
  trk := fun a h => by
    by_cases z : a = p
    · rw [z]; exact ⟨u, upd_same⟩
    · rw [upd_ne z]; exact R.trk a h
  sh := fun i d h => let ⟨v, h1, h2⟩ := R.sh i d h; ⟨v, h1, den_upd h2 (.inl hp)⟩
  ow := fun i d h => let ⟨a, h1, h2, h3⟩ := R.ow i d h; ⟨a, h1, h2, h3.step (fun x q e n => by
    by_cases z : x = p
    · rw [z] at n; exact absurd (.inl hp) n
    · rw [upd_ne z]; exact e) (fun _ _ _ n => n) fun q e => by
    have z : a ≠ p := fun z => h2 (by rw [z]; exact hp)
    rw [upd_ne z]; exact e⟩
  inj := R.inj
theorem enR_dict {trs : List (TE × TE)} {r : PF} (ha : PvR P w K trs r) : EnR P w K (tDictX P w K trs) (eDict r) := by
  intro A σ H ρ d ρ' Q R e k
  unfold eDict at e
  obtain ⟨⟨d1, ρ1⟩, e1, e⟩ := Option.bind_eq_some_iff.mp e
  split at e
  · rename_i hl
    cases e
    intro p o0 np kd0
    have ex : Ext H (upd H p (ObjIs p o0)) := ext_new np
    refine ha (A.add p) σ _ ρ d1 _ _ (R.fresh ex np ⟨_, upd_same⟩) e1 fun v1 H1 R1 p1 n1 => ?_
    have hr : ¬ Rt σ ρ p := fun z => by
      obtain ⟨o', q'⟩ := R.ftrk p (.inr z)
      rw [np] at q'
      cases q'
    obtain ⟨b, hb, hk⟩ : ∃ b, pairsKind d1 = some b ∧ kindsAre b d1 = true := by
      obtain ⟨b, hb⟩ := isSome_some hl.1
      refine ⟨b, hb, ?_⟩
      unfold pairsKind at hb
      cases d1 with
      | nil => cases hb; rfl
      | cons p ps =>
        simp only at hb
        split at hb
        · split at hb
          · rename_i hk
            cases hb
            exact hk
          · cases hb
        · cases hb
    refine ⟨p1.keep p _ upd_same hr, _, d1, b, .inl (.inr rfl), n1, hk, hl.2, fun u on => ?_⟩
    refine k p _ (R1.prot (.inr rfl) u) ⟨fun x q h n => ?_, fun x q h => ?_, p1.sub⟩ np on
    · have hx : x ≠ p := fun z => by rw [z, np] at h; cases h
      rw [upd_ne hx]
      exact p1.keep x q (by rw [upd_ne hx]; exact h) n
    · have hx : x ≠ p := fun z => by rw [z, np] at h; cases h
      rw [upd_ne hx]
      exact p1.there x q (by rw [upd_ne hx]; exact h)
  · cases e
end
end EV
namespace EV
open PySem PySem.Spec PyProof.Rows L2

/-! ### dicts made, the rules -/
def PV (X : Cx) (pos : Pos) (ks : List (Option Expr)) (vs : List Expr) (f : PF) : Prop := ∃ t, PPs X pos ks vs t ∧ PvR X.prog X.w X.K t f
def eDict0 : EF := fun ρ => some (.dict [], ρ)
def tDict0 (P : Program) (w : World) : TE := fun σ H Q => ∀ (p : Addr) (o0 : Obj), H p = none → KD P w p o0 [] → Q (.ref p) (upd H p (ObjIs p o0))
section
variable {X : Cx} {pos : Pos} {k v : Expr} {ks : List (Option Expr)} {vs : List Expr} {f g : EF} {r : PF}
theorem pv_nil : PV X pos [] [] pNil := ⟨_, pps_nil, pvR_nil⟩
theorem pv_cons (h1 : EV X k f) (h2 : EV X v g) (h3 : PV X pos ks vs r) : PV X pos (some k :: ks) (v :: vs) (pCons f g r) :=
  let ⟨_, a1, a2⟩ := h1; let ⟨_, b1, b2⟩ := h2; let ⟨_, c1, c2⟩ := h3; ⟨_, pps_cons a1 b1 c1, pvR_cons a2 b2 c2⟩
theorem en_dict (hu : X.A.units + 64 < cLine) (h : PV X pos ks vs r) (hall : ks.all (·.isSome) = true := by rfl) (hl : ks.length = vs.length := by rfl) (h0 : ks ≠ [] := by exact List.cons_ne_nil _ _) (h15 : ks.length ≤ 15 := by decide) : EN X (.Dict ks vs pos) (eDict r) :=
  let ⟨_, a1, a2⟩ := h; ⟨_, pe_dictX hu a1 hall hl h0 h15, enR_dict a2⟩
theorem pe_dict0 : PE X (.Dict [] [] pos) (tDict0 X.prog X.w) := by
  refine ⟨fun pins s σ H Q I q => wpAny_Dict_empty ?_⟩
  have hn := I.hok.fresh (Nat.le_refl s.heap.objs.size)
  have new : (s.heap.push { cls := .type "dict", data := .dict #[] }).get? s.heap.objs.size = some { cls := .type "dict", data := .dict #[] } := Heap.get?_push_size _ rfl
  have I1 := I.laid (a := s.heap.objs.size) (o := ObjIs s.heap.objs.size { cls := .type "dict", data := .dict #[] }) (h' := s.heap.push { cls := .type "dict", data := .dict #[] }) (t' := s.toks) (fun _ _ q => Heap.get?_push_of_some _ q) (Nat.le_refl _) (objIs_ok new)
  have kd0 : KD X.prog X.w s.heap.objs.size { cls := .type "dict", data := .dict #[] } [] := dk0_ok (H := H) s.heap I.big
  exact ⟨.ref s.heap.objs.size, _, I1, rfl, q _ _ hn kd0⟩
end
section
variable {P : Program} {w : World} {K : PySem.W.Frag}
theorem enR_dict0 : EnR P w K (tDict0 P w) eDict0 := by
  intro A σ H ρ d ρ' Q R e k
  cases e
  intro p o0 np kd0
  have ex : Ext H (upd H p (ObjIs p o0)) := ext_new np
  exact k p _ (R.fresh ex np ⟨_, upd_same⟩) (Pe.ext ex) np (.dk upd_same kd0 .nil)
end
theorem en_dict0 {X : Cx} {pos : Pos} : EN X (.Dict [] [] pos) eDict0 := ⟨_, pe_dict0, enR_dict0⟩

/-! ### += -/
def dAddI (x y : PyData) : Option PyData := match x, y with
  | .int a, .int b => some (.int (a + b))
  | _, _ => none
def dSubI (x y : PyData) : Option PyData := match x, y with
  | .int a, .int b => some (.int (a - b))
  | _, _ => none
section
variable {P : Program} {w : World} {K : PySem.W.Frag} {J : List Nat} {te tk : TE} {f g : EF} {i : Nat} {o : PyData → PyData → Option PyData}
theorem svR_aug (hf : EvR P w K te f) (hJ : J.contains i = false) : SvR P w K J (tAug i te (rBy P w K o)) (sAug o i f) := fun A σ H ρ fl ρ' D R e k => by
  unfold sAug at e
  obtain ⟨⟨d0, ρ0⟩, e0, e⟩ := Option.bind_eq_some_iff.mp e
  obtain ⟨⟨d1, ρ1⟩, e1, e⟩ := Option.bind_eq_some_iff.mp e
  obtain ⟨⟨d2, ρ2⟩, e2, e⟩ := Option.bind_eq_some_iff.mp e
  obtain ⟨z, e3, e⟩ := Option.map_eq_some_iff.mp e
  cases e
  obtain ⟨_, v, hv, _⟩ := R.read e0
  refine ⟨v, hv, hf A σ H ρ d1 ρ1 _ R e1 fun v1 H1 R1 p1 n1 => ?_⟩
  obtain ⟨rfl, v', hv', n2⟩ := R1.read e2
  rw [hv] at hv'
  cases hv'
  refine ⟨FbS A σ _, d2, d1, z, R1.ftrk, n2, n1.x, e3, fun u H2 ex dn => ?_⟩
  obtain ⟨R3, sub⟩ := (R1.ext ex).stored (A := A) (s := .sh z) ⟨rfl, dn⟩ (i := i)
  exact k _ H2 R3 (stp_of R (p1.trans (Pe.ext ex)) (fun x h => .inl h) sub R3.noroot) (Agr.set hJ)
theorem svR_augS (hg : EvR P w K tk g) (hf : EvR P w K te f) : SvR P w K J (tAugS (tVar i) tk te (rBy P w K dGetD) (rBy P w K o) (rSetO P w K)) (sAugS o i g f) := fun A σ H ρ fl ρ' D R e k => by
  unfold sAugS at e
  obtain ⟨⟨d0, ρ0⟩, e0, e⟩ := Option.bind_eq_some_iff.mp e
  obtain ⟨⟨d1, ρ1⟩, e1, e⟩ := Option.bind_eq_some_iff.mp e
  obtain ⟨⟨d2, ρ2⟩, e2, e⟩ := Option.bind_eq_some_iff.mp e
  obtain ⟨x, e3, e⟩ := Option.bind_eq_some_iff.mp e
  obtain ⟨⟨d4, ρ4⟩, e4, e⟩ := Option.bind_eq_some_iff.mp e
  obtain ⟨_, v, hv, _⟩ := R.read e0
  refine ⟨v, hv, hg A σ H ρ d1 ρ1 _ R e1 fun v1 H1 R1 p1 n1 => ?_⟩
  obtain ⟨rfl, v', hv', n2⟩ := R1.read e2
  rw [hv] at hv'
  cases hv'
  refine ⟨FbS A σ _, d2, d1, x, R1.ftrk, n2, n1.x, e3, fun v3 H3 ex3 n3 => ?_⟩
  refine hf A σ H3 _ d4 ρ4 _ (R1.ext ex3) e4 fun v4 H4 R4 p4 n4 => ?_
  simp only at e
  split at e
  · rename_i c' hc
    obtain ⟨z, e5, e⟩ := Option.bind_eq_some_iff.mp e
    obtain ⟨c2, e6, e⟩ := Option.map_eq_some_iff.mp e
    cases e
    refine ⟨FbS A σ ρ4, x, d4, z, R4.ftrk, ((R1.ext ex3).den p4.stp n3).x, n4.x, e5, fun v5 H5 ex5 n5 => ?_⟩
    have R5 := R4.ext ex5
    obtain ⟨a, h1, h2, h3⟩ := R5.ow i _ hc
    rw [hv] at h1
    cases h1
    refine ⟨FbS A σ ρ4, a, c', d1, z, c2, rfl, R5.ftrk, .inr ⟨i, c', hc, hv⟩, h3, (R5.den Pe.refl.stp (((R1.ext ex3).den p4.stp (n1.ext ex3)).ext ex5)).x, n5, e6, fun u hn => ?_⟩
    obtain ⟨R', p'⟩ := R5.mut hc hv hn
    exact k _ _ R' (((((p1.trans (Pe.ext ex3)).trans p4).trans (Pe.ext ex5)).trans p').stp) Agr.refl
  · cases e
end
section
variable {X : Cx} {J : List Nat} {e e2 : Expr} {f g : EF} {pos npos apos cpos p1 p2 : Pos} {i : Nat} {x : Str} {id : String} {o : PyData → PyData → Option PyData} {op : Operator}
abbrev IpS (X : Cx) (op : Operator) (o : PyData → PyData → Option PyData) : Prop := PIp X op (rBy X.prog X.w X.K o)
theorem ip_addI : IpS X .Add dAddI := by
  intro pins s σ H x y v u Q I r1 r2 h
  obtain ⟨F, d, e, z, ht, hx, hy, ez, q⟩ := h
  unfold dAddI at ez
  split at ez
  · cases ez
    obtain rfl := hx.int
    obtain rfl := hy.int
    exact ip_add pins s σ H _ _ v u Q I r1 r2 ⟨_, _, rfl, rfl, q _ H (fun _ _ z => z) (.int _)⟩
  · cases ez
theorem ip_subI : IpS X .Sub dSubI := by
  intro pins s σ H x y v u Q I r1 r2 h
  obtain ⟨F, d, e, z, ht, hx, hy, ez, q⟩ := h
  unfold dSubI at ez
  split at ez
  · cases ez
    obtain rfl := hx.int
    obtain rfl := hy.int
    exact ip_sub pins s σ H _ _ v u Q I r1 r2 ⟨_, _, rfl, rfl, q _ H (fun _ _ z => z) (.int _)⟩
  · cases ez
theorem pget_dict (hu : X.A.units + 64 < cLine) : PGet X (rBy X.prog X.w X.K dGetD) := by
  intro pins s σ H x y v u Q I rx ry h
  obtain ⟨F, d, k, z, ht, hx, hy, e, q⟩ := h
  unfold dGetD at e
  split at e
  · rename_i ds
    split at e
    · rename_i hok
      obtain ⟨b, hb⟩ := isSome_some hok
      obtain ⟨a, rfl, dx, hk⟩ := dx_of hx hb
      obtain rfl : v = Value.ref a := rx
      exact get_dict hu I dx hk hy ry e q
    · cases e
  · cases e
theorem sv_aug (i : Nat) (hN : X.N.Nodup) (ho : IpS X op o) (h : EV X e f) (hi : X.N[i]? = some x := by rfl) (hx : Loc X.env.scope x := by first | exact .inl rfl | exact .inr rfl) (hJ : J.contains i = false := by rfl)
    (hf : X.fn x = true ∨ X.env.scope.names.lookup x = some .local := by first | exact .inl rfl | exact .inr rfl) : SV X J (.AugAssign (.Name x npos) op e pos) (sAug o i f) := let ⟨_, a1, a2⟩ := h; ⟨_, ps_aug hN hi hx a1 ho hf, svR_aug a2 hJ⟩
theorem sv_augS (i : Nat) (hu : X.A.units + 64 < cLine) (ho : IpS X op o) (hk : EV X e2 g) (h : EV X e f) (hN : X.N[i]? = some x := by rfl) (hv : Vis X.env.scope x := by first | exact Or.inl rfl | exact Or.inr (Or.inl rfl) | exact Or.inr (Or.inr rfl))
    (hd : (x == ("__debug__" : Str)) = false := by decide) (hcd : (x == ("__classdict__" : Str)) = false := by decide)
    (ha : ∀ ov iv new, augStore e2 ov iv new = (do holding [new, ov, iv] (setItem ov iv new); release [new, ov, iv] []; pure .next) := by intros; rfl) : SV X J (.AugAssign (.Subscript (.Name x npos) e2 apos) op e pos) (sAugS o i g f) :=
  let ⟨_, a1, a2⟩ := h; let ⟨_, b1, b2⟩ := hk; ⟨_, ps_augS (pe_var hN hv hd hcd) b1 (pget_dict hu) a1 ho (set_own hu) ha, svR_augS b2 a2⟩
theorem gv_s (i : Nat) (hu : X.A.units + 64 < cLine) (hk : EV X e2 g) (hN : X.N[i]? = some x := by rfl) (hv : Vis X.env.scope x := by first | exact Or.inl rfl | exact Or.inr (Or.inl rfl) | exact Or.inr (Or.inr rfl))
    (hd : (x == ("__debug__" : Str)) = false := by decide) (hcd : (x == ("__classdict__" : Str)) = false := by decide)
    (ha : ∀ v, assign (.Subscript (.Name x npos) e2 apos) X.env v = (do
      let ov ← holding [v] (eval (.Name x npos) X.env)
      let iv ← holding [v, ov] (eval e2 X.env)
      standAt apos
      holding [v, ov, iv] (setItem ov iv v)
      release [v, ov, iv] []) := by intro _; rfl) : GV X J (.Subscript (.Name x npos) e2 apos) (gS i g) :=
  let ⟨_, b1, b2⟩ := hk; ⟨_, pg_sub (pe_var hN hv hd hcd) b1 (set_own hu) ha, gvR_s b2⟩
end
end EV
namespace EV
open PySem PySem.Spec PyProof.Rows L2

/-! ### what is walked -/
def chars (x : Str) : List PyData := x.cps.toList.map fun c => .str ⟨#[c]⟩
def elems (d : PyData) : Option (List PyData) := match d with
  | .list ds => some ds
  | .tuple ds => some ds
  | .str x => some (chars x)
  | _ => none
def wSeq (f : EF) : LF := fun ρ => (f ρ).bind fun p => (elems p.1).map fun ds => (ds, p.2)
def small62 (i : Int) : Bool := decide (-(2 ^ 62) ≤ i ∧ i < 2 ^ 62)
def rng (i : Int) (n : Nat) (c : Int) : List PyData := (List.range n).map fun (k : Nat) => .int (i + (k : Int) * c)
def wRng (f : LF) : LF := fun ρ => (f ρ).bind fun p => match p.1 with
  | [.int j] => if small62 j = true then some (rng 0 j.toNat 1, p.2) else none
  | [.int i, .int j] => if small62 i = true ∧ small62 j = true then some (rng i (j - i).toNat 1, p.2) else none
  | [.int i, .int j, .int c] => if c = -1 ∧ small62 i = true ∧ small62 j = true then some (rng i (i - j).toNat (-1), p.2) else
      (if c ≠ 0 ∧ c.natAbs < 1073741824 ∧ Builtin.Range.small i j c = true ∧ 0 ≤ Builtin.Range.rangeSize i j c then some (rng i (Builtin.Range.rangeSize i j c).toNat c, p.2) else none)
  | _ => none
def pairUp (xs ys : List PyData) : List PyData := (xs.zip ys).map fun p => .tuple [p.1, p.2]
def wZip (f : LF) : LF := fun ρ => (f ρ).bind fun p => match p.1 with
  | [.list xs, .list ys] => some (pairUp xs ys, p.2)
  | [.tuple xs, .tuple ys] => some (pairUp xs ys, p.2)
  | _ => none
section
variable {P : Program} {w : World} {K : PySem.W.Frag} {H : Hp} {F : Fb}
theorem Den.sqL {v : V} {ds : List PyData} (h : Den P w K H F v (.list ds)) : ∃ a xs, v = .ref a ∧ SqL K H a xs ∧ DenAll P w K H F xs ds := by
  cases h with
  | lst n r t => exact ⟨_, _, rfl, .inl r, t⟩
  | klst r t => exact ⟨_, _, rfl, .inr r, t⟩
theorem Den.sqT {v : V} {ds : List PyData} (h : Den P w K H F v (.tuple ds)) : ∃ a xs, v = .ref a ∧ SqT K H a xs ∧ DenAll P w K H F xs ds := by
  cases h with
  | tup n r t => exact ⟨_, _, rfl, .inl r, t⟩
  | ktup r t => exact ⟨_, _, rfl, .inr r, t⟩
theorem DenX.sqL {v : V} {ds : List PyData} (h : DenX P w K H F v (.list ds)) : ∃ a xs, v = .ref a ∧ SqL K H a xs ∧ DenAll P w K H F xs ds := by
  cases h with
  | of h => exact h.sqL
  | ow h => cases h with
    | lst n t => exact ⟨_, _, rfl, .inl (.of n), t⟩
theorem DenX.sqT {v : V} {ds : List PyData} (h : DenX P w K H F v (.tuple ds)) : ∃ a xs, v = .ref a ∧ SqT K H a xs ∧ DenAll P w K H F xs ds := by
  cases h with
  | of h => exact h.sqT
  | ow h => cases h
theorem wk_l {a : Addr} {ds : List PyData} (h : Den P w K H F (.ref a) (.list ds)) : Wk P w K (Itl K a) ds H F := fun H2 F2 k f _ i => by
  obtain ⟨a', xs, e, hq, t⟩ := (h.step k f).sqL
  cases e
  refine ⟨fun d hd => ?_, fun hl => ⟨xs, hq, by rw [t.length]; exact hl⟩⟩
  obtain ⟨v, hv, dn⟩ := t.get hd
  refine ⟨⟨xs, v, hq, hv⟩, fun x H3 ⟨e, q⟩ => ?_⟩
  subst e
  have := q xs hq
  rw [hv] at this
  cases this
  exact ⟨fun _ _ z => z, dn⟩
theorem wk_t {a : Addr} {ds : List PyData} (h : Den P w K H F (.ref a) (.tuple ds)) : Wk P w K (Itt K a) ds H F := fun H2 F2 k f _ i => by
  obtain ⟨a', xs, e, hq, t⟩ := (h.step k f).sqT
  cases e
  refine ⟨fun d hd => ?_, fun hl => ⟨xs, hq, by rw [t.length]; exact hl⟩⟩
  obtain ⟨v, hv, dn⟩ := t.get hd
  refine ⟨⟨xs, v, hq, hv⟩, fun x H3 ⟨e, q⟩ => ?_⟩
  subst e
  have := q xs hq
  rw [hv] at this
  cases this
  exact ⟨fun _ _ z => z, dn⟩
theorem wk_s {x : Str} : Wk P w K (Its x) (chars x) H F := fun H2 F2 k f _ i => by
  unfold chars
  refine ⟨fun d hd => ?_, fun hl => by rw [List.length_map] at hl; exact (by simpa using hl : x.cps.size ≤ i)⟩
  rw [List.getElem?_map] at hd
  obtain ⟨c, hc, rfl⟩ := Option.map_eq_some_iff.mp hd
  rw [Array.getElem?_toList] at hc
  refine ⟨(Array.getElem?_eq_some_iff.mp hc).1, fun v H3 ⟨e, c', q, e2⟩ => ?_⟩
  subst e e2
  rw [hc] at q
  cases q
  exact ⟨fun _ _ z => z, .str _⟩
theorem wk_r {i : Int} {n : Nat} {c : Int} : Wk P w K (Itc i c n) (rng i n c) H F := fun H2 F2 k f _ j => by
  unfold rng
  refine ⟨fun d hd => ?_, fun hl => (by simpa using hl : n ≤ j)⟩
  rw [List.getElem?_map] at hd
  obtain ⟨m, hm, rfl⟩ := Option.map_eq_some_iff.mp hd
  obtain ⟨h1, h2⟩ := List.getElem?_eq_some_iff.mp hm
  rw [List.getElem_range] at h2
  subst h2
  refine ⟨(by simpa using h1 : j < n), fun v H3 ⟨e, e2⟩ => ?_⟩
  subst e e2
  exact ⟨fun _ _ z => z, .int _⟩
theorem wk_r1 {i : Int} {n : Nat} : Wk P w K (Itr i n) (rng i n 1) H F := fun H2 F2 k f _ j => by
  unfold rng
  refine ⟨fun d hd => ?_, fun hl => (by simpa using hl : n ≤ j)⟩
  rw [List.getElem?_map] at hd
  obtain ⟨m, hm, rfl⟩ := Option.map_eq_some_iff.mp hd
  obtain ⟨h1, h2⟩ := List.getElem?_eq_some_iff.mp hm
  rw [List.getElem_range] at h2
  subst h2
  refine ⟨(by simpa using h1 : j < n), fun v H3 ⟨e, e2⟩ => ?_⟩
  subst e e2
  rw [Int.mul_one]
  exact ⟨fun _ _ z => z, .int _⟩
theorem pairUp_get {xs ys : List PyData} {i : Nat} {d : PyData} (h : (pairUp xs ys)[i]? = some d) : ∃ x y, xs[i]? = some x ∧ ys[i]? = some y ∧ d = .tuple [x, y] := by
  unfold pairUp at h
  rw [List.getElem?_map] at h
  obtain ⟨⟨x, y⟩, h1, rfl⟩ := Option.map_eq_some_iff.mp h
  rw [List.getElem?_zip_eq_some] at h1
  exact ⟨x, y, h1.1, h1.2, rfl⟩
theorem den_pair {H3 : Hp} {T : Addr} {x y : V} {d e : PyData} {F2 : Fb} (hF : ∀ a, F2 a → ∃ o, H a = some o) (hT : H T = none) (h1 : Den P w K H F2 x d) (h2 : Den P w K H F2 y e) : Ext H (upd H T (.tup [x, y])) ∧ Den P w K (upd H T (.tup [x, y])) F2 (.ref T) (.tuple [d, e]) :=
  have ex := ext_new hT
  ⟨ex, .tup (fun z => by obtain ⟨o, q⟩ := hF T z; rw [hT] at q; cases q) (.inl upd_same) (.cons (h1.ext ex) (.cons (h2.ext ex) .nil))⟩
theorem wk_zl {a b : Addr} {xs ys : List PyData} (h1 : Den P w K H F (.ref a) (.list xs)) (h2 : Den P w K H F (.ref b) (.list ys)) : Wk P w K (Itz K a b) (pairUp xs ys) H F := fun H2 F2 k f hF i => by
  obtain ⟨a', us, e, hq, t⟩ := (h1.step k f).sqL
  cases e
  obtain ⟨b', vs, e, hq2, t2⟩ := (h2.step k f).sqL
  cases e
  refine ⟨fun d hd => ?_, fun hl => ⟨us, vs, hq, hq2, ?_⟩⟩
  · obtain ⟨x, y, e1, e2, rfl⟩ := pairUp_get hd
    obtain ⟨u, hu, d1⟩ := t.get e1
    obtain ⟨v, hv, d2⟩ := t2.get e2
    refine ⟨⟨us, vs, u, v, hq, hq2, hu, hv⟩, fun x H3 ⟨T, u', v', ex, hT, eH, q1, q2⟩ => ?_⟩
    have z1 := q1 us hq
    rw [hu] at z1
    cases z1
    have z2 := q2 vs hq2
    rw [hv] at z2
    cases z2
    subst ex eH
    exact den_pair (H3 := H2) hF hT d1 d2
  · rw [t.length, t2.length]
    unfold pairUp at hl
    rw [List.length_map, List.length_zip] at hl
    omega
theorem wk_zt {a b : Addr} {xs ys : List PyData} (h1 : Den P w K H F (.ref a) (.tuple xs)) (h2 : Den P w K H F (.ref b) (.tuple ys)) : Wk P w K (RZ.ItzT K a b) (pairUp xs ys) H F := fun H2 F2 k f hF i => by
  obtain ⟨a', us, e, hq, t⟩ := (h1.step k f).sqT
  cases e
  obtain ⟨b', vs, e, hq2, t2⟩ := (h2.step k f).sqT
  cases e
  refine ⟨fun d hd => ?_, fun hl => ⟨us, vs, hq, hq2, ?_⟩⟩
  · obtain ⟨x, y, e1, e2, rfl⟩ := pairUp_get hd
    obtain ⟨u, hu, d1⟩ := t.get e1
    obtain ⟨v, hv, d2⟩ := t2.get e2
    refine ⟨⟨us, vs, u, v, hq, hq2, hu, hv⟩, fun x H3 ⟨T, u', v', ex, hT, eH, q1, q2⟩ => ?_⟩
    have z1 := q1 us hq
    rw [hu] at z1
    cases z1
    have z2 := q2 vs hq2
    rw [hv] at z2
    cases z2
    subst ex eH
    exact den_pair (H3 := H2) hF hT d1 d2
  · rw [t.length, t2.length]
    unfold pairUp at hl
    rw [List.length_map, List.length_zip] at hl
    omega
/-- a value, walked -/
def iAny (K : PySem.W.Frag) (te : TE) : TI := fun σ H R => te σ H fun v H1 => (∃ a xs, v = .ref a ∧ SqL K H1 a xs ∧ R (Itl K a) H1) ∨ (∃ a xs, v = .ref a ∧ SqT K H1 a xs ∧ R (Itt K a) H1) ∨ (∃ x, v = .str x ∧ R (Its x) H1)
theorem ivR_any {te : TE} {f : EF} (h : EvR P w K te f) : IvR P w K (iAny K te) (wSeq f) := by
  intro A σ H ρ ds ρ' R RS e k
  unfold wSeq at e
  obtain ⟨⟨d1, ρ1⟩, e1, e⟩ := Option.bind_eq_some_iff.mp e
  obtain ⟨xs, e2, e⟩ := Option.map_eq_some_iff.mp e
  cases e
  refine h A σ H ρ d1 ρ1 _ RS e1 fun v H1 R1 p1 n1 => ?_
  have e2 : elems d1 = some _ := e2
  unfold elems at e2
  split at e2
  · cases e2
    obtain ⟨a, us, rfl, hq, _⟩ := n1.sqL
    exact .inl ⟨a, us, rfl, hq, k _ H1 R1 p1 (wk_l n1)⟩
  · cases e2
    obtain ⟨a, us, rfl, hq, _⟩ := n1.sqT
    exact .inr (.inl ⟨a, us, rfl, hq, k _ H1 R1 p1 (wk_t n1)⟩)
  · cases e2
    cases n1
    exact .inr (.inr ⟨_, rfl, k _ H1 R1 p1 wk_s⟩)
  · cases e2
/-- range(..) of one, two, three -/
def iRngAny (n : Nat) (ta : TA) : TI := match n with
  | 1 => iRng1 ta
  | 2 => iRng2 ta
  | _ => iRng3 ta
theorem s62 {i : Int} (h : small62 i = true) : -(2 ^ 62) ≤ i ∧ i < 2 ^ 62 := of_decide_eq_true h
theorem den_int {v : V} {i : Int} (h : Den P w K H F v (.int i)) : v = .int i := by cases h; rfl
theorem ivR_r1 {ta : TA} {f : EF} (h : AvR P w K ta (aCons f aNil)) : IvR P w K (iRng1 ta) (wRng (aCons f aNil)) := by
  intro A σ H ρ ds ρ' R RS e k
  unfold wRng at e
  obtain ⟨⟨d1, ρ1⟩, e1, e⟩ := Option.bind_eq_some_iff.mp e
  refine h A σ H ρ d1 ρ1 _ RS e1 fun vs H1 R1 p1 n1 => ?_
  unfold aCons at e1
  obtain ⟨⟨a1, r1⟩, q1, e1⟩ := Option.bind_eq_some_iff.mp e1
  obtain ⟨⟨a2, r2⟩, q2, e1⟩ := Option.map_eq_some_iff.mp e1
  cases q2
  cases e1
  simp only at e
  split at e
  · rename_i j hj
    split at e
    · rename_i hs
      cases e
      cases hj
      cases n1 with
      | cons h1 t =>
        cases t
        obtain rfl := den_int h1
        exact ⟨j, rfl, (s62 hs).1, (s62 hs).2, k _ H1 R1 p1 wk_r1⟩
    · cases e
  · rename_i hj; cases hj
  · rename_i hj; cases hj
  · cases e
theorem ivR_r2 {ta : TA} {f g : EF} (h : AvR P w K ta (aCons f (aCons g aNil))) : IvR P w K (iRng2 ta) (wRng (aCons f (aCons g aNil))) := by
  intro A σ H ρ ds ρ' R RS e k
  unfold wRng at e
  obtain ⟨⟨d1, ρ1⟩, e1, e⟩ := Option.bind_eq_some_iff.mp e
  refine h A σ H ρ d1 ρ1 _ RS e1 fun vs H1 R1 p1 n1 => ?_
  unfold aCons at e1
  obtain ⟨⟨a1, r1⟩, q1, e1⟩ := Option.bind_eq_some_iff.mp e1
  obtain ⟨⟨a2, r2⟩, q2, e1⟩ := Option.map_eq_some_iff.mp e1
  obtain ⟨⟨a3, r3⟩, q3, q2⟩ := Option.bind_eq_some_iff.mp q2
  obtain ⟨⟨a4, r4⟩, q4, q2⟩ := Option.map_eq_some_iff.mp q2
  cases q4
  cases q2
  cases e1
  simp only at e
  split at e
  · rename_i hj; cases hj
  · rename_i i j hj
    split at e
    · rename_i hs
      cases e
      cases hj
      cases n1 with
      | cons h1 t =>
        cases t with
        | cons h2 t =>
          cases t
          obtain rfl := den_int h1
          obtain rfl := den_int h2
          exact ⟨i, j, rfl, ⟨(s62 hs.1).1, (s62 hs.1).2, (s62 hs.2).1, (s62 hs.2).2⟩, k _ H1 R1 p1 wk_r1⟩
    · cases e
  · rename_i hj; cases hj
  · cases e
theorem ivR_r3 {ta : TA} {f g l : EF} (h : AvR P w K ta (aCons f (aCons g (aCons l aNil)))) : IvR P w K (iRng3 ta) (wRng (aCons f (aCons g (aCons l aNil)))) := by
  intro A σ H ρ ds ρ' R RS e k
  unfold wRng at e
  obtain ⟨⟨d1, ρ1⟩, e1, e⟩ := Option.bind_eq_some_iff.mp e
  refine h A σ H ρ d1 ρ1 _ RS e1 fun vs H1 R1 p1 n1 => ?_
  unfold aCons at e1
  obtain ⟨⟨a1, r1⟩, q1, e1⟩ := Option.bind_eq_some_iff.mp e1
  obtain ⟨⟨a2, r2⟩, q2, e1⟩ := Option.map_eq_some_iff.mp e1
  obtain ⟨⟨a3, r3⟩, q3, q2⟩ := Option.bind_eq_some_iff.mp q2
  obtain ⟨⟨a4, r4⟩, q4, q2⟩ := Option.map_eq_some_iff.mp q2
  obtain ⟨⟨a5, r5⟩, q5, q4⟩ := Option.bind_eq_some_iff.mp q4
  obtain ⟨⟨a6, r6⟩, q6, q4⟩ := Option.map_eq_some_iff.mp q4
  cases q6
  cases q4
  cases q2
  cases e1
  simp only at e
  split at e
  · rename_i hj; cases hj
  · rename_i hj; cases hj
  · rename_i i j c hj
    cases hj
    cases n1 with
    | cons h1 t =>
      cases t with
      | cons h2 t =>
        cases t with
        | cons h3 t =>
          cases t
          obtain rfl := den_int h1
          obtain rfl := den_int h2
          obtain rfl := den_int h3
          split at e
          · rename_i hs
            cases e
            obtain ⟨hc, hi, hj⟩ := hs
            subst hc
            exact ⟨i, j, -1, _, rfl, RgC.neg (s62 hi).1 (s62 hi).2 (s62 hj).1 (s62 hj).2, k _ H1 R1 p1 wk_r⟩
          · split at e
            · rename_i hs
              cases e
              exact ⟨i, j, c, _, rfl, ⟨hs.1, hs.2.1, hs.2.2.1, (Int.toNat_of_nonneg hs.2.2.2).symm⟩, k _ H1 R1 p1 wk_r⟩
            · cases e
  · cases e
theorem ivR_zip {ta : TA} {f : LF} (h : AvR P w K ta f) : IvR P w K (RZ.iZipA K ta) (wZip f) := by
  intro A σ H ρ ds ρ' R RS e k
  unfold wZip at e
  obtain ⟨⟨d1, ρ1⟩, e1, e⟩ := Option.bind_eq_some_iff.mp e
  refine h A σ H ρ d1 ρ1 _ RS e1 fun vs H1 R1 p1 n1 => ?_
  simp only at e
  split at e
  · cases e
    cases n1 with
    | cons h1 t =>
      cases t with
      | cons h2 t =>
        cases t
        obtain ⟨a, us, rfl, hq, _⟩ := h1.sqL
        obtain ⟨b, vs, rfl, hq2, _⟩ := h2.sqL
        exact ⟨a, b, us, vs, rfl, .inl ⟨hq, hq2, k _ H1 R1 p1 (wk_zl h1 h2)⟩⟩
  · cases e
    cases n1 with
    | cons h1 t =>
      cases t with
      | cons h2 t =>
        cases t
        obtain ⟨a, us, rfl, hq, _⟩ := h1.sqT
        obtain ⟨b, vs, rfl, hq2, _⟩ := h2.sqT
        exact ⟨a, b, us, vs, rfl, .inr ⟨hq, hq2, k _ H1 R1 p1 (wk_zt h1 h2)⟩⟩
  · cases e
end
section
variable {X : Cx} {tg e a b c : Expr} {f g h : EF} {l : LF} {p pos tpos : Pos} {elts : List Expr} {kk : Nat}
theorem pi_any {te : TE} (he : PE X e te) : PI X tg e (iAny X.K te) := by
  refine ⟨fun pins s σ H R I h => ?_⟩
  refine thn (he.run pins s σ H _ I h) fun v s1 ⟨x, H1, I1, r1, q1⟩ => ?_
  rcases q1 with ⟨a, xs, rfl, hq, q⟩ | ⟨a, xs, rfl, hq, q⟩ | ⟨x, rfl, q⟩
  · cases r1
    obtain ⟨its, rv, p, hz⟩ := I1.list hq
    refine wpAny_pyIter_list p.isList ?_
    refine ⟨s1.heap.objs.size, [s1.heap.objs.size], _, _, H1, rfl, I1.kept (t' := s1.toks) fun b o e => Heap.get?_push_of_some _ e, turn_list a _, ⟨_, Heap.get?_push_size _ rfl, rfl, rfl⟩, fun b hb => ?_, q⟩
    have e : b = s1.heap.objs.size := by simpa using hb
    subst e
    exact I1.fpOk (Nat.le_refl _) (I1.hok.fresh (Nat.le_refl _))
  · cases r1
    obtain ⟨its, rv, p, hz⟩ := I1.tuple hq
    refine wpAny_pyIter_tuple (show s1.heap.IsTuple a its.toArray from p) ?_
    refine ⟨s1.heap.objs.size, [s1.heap.objs.size], _, _, H1, rfl, I1.kept (t' := s1.toks) fun b o e => Heap.get?_push_of_some _ e, turn_tuple a _, ⟨_, Heap.get?_push_size _ rfl, rfl, rfl⟩, fun b hb => ?_, q⟩
    have e : b = s1.heap.objs.size := by simpa using hb
    subst e
    exact I1.fpOk (Nat.le_refl _) (I1.hok.fresh (Nat.le_refl _))
  · obtain ⟨t, rfl⟩ := r1
    cases ha : x.cps.all (· < 128)
    · exact wpAny_pyIter_wide ha (pi_one (tk := s1.toks) I1 _ (turn_str _ x t "str_iterator" (.inr rfl)) ⟨_, Heap.get?_push_size _ rfl, rfl, rfl⟩ q)
    · exact wpAny_pyIter_ascii ha (pi_one (tk := s1.toks) I1 _ (turn_str _ x t "str_ascii_iterator" (.inl rfl)) ⟨_, Heap.get?_push_size _ rfl, rfl, rfl⟩ q)
theorem iv_any (h : EV X e f) : IV X tg e (wSeq f) := let ⟨_, h1, h2⟩ := h; ⟨_, pi_any h1, ivR_any h2⟩
theorem iv_r1 (hm : X.mg "range" = none) (h : AV X [a] (aCons f aNil)) (hg : Gl X "range" := by rfl) (hs : starEach [a] X.env = [(false, eval a X.env)] := by rfl) : IV X tg (.Call (.Name "range" p) [a] [] pos) (wRng (aCons f aNil)) := let ⟨_, h1, h2⟩ := h; ⟨_, pi_range1 hg hm h1 hs, ivR_r1 h2⟩
theorem iv_r2 (hm : X.mg "range" = none) (h : AV X [a, b] (aCons f (aCons g aNil))) (hg : Gl X "range" := by rfl) (hs : starEach [a, b] X.env = [(false, eval a X.env), (false, eval b X.env)] := by rfl) (hs2 : starEach [b] X.env = [(false, eval b X.env)] := by rfl) :
    IV X tg (.Call (.Name "range" p) [a, b] [] pos) (wRng (aCons f (aCons g aNil))) := let ⟨_, h1, h2⟩ := h; ⟨_, pi_range2 hg hm h1 hs hs2, ivR_r2 h2⟩
theorem iv_r3 {k : EF} (hm : X.mg "range" = none) (h : AV X [a, b, c] (aCons f (aCons g (aCons k aNil)))) (hg : Gl X "range" := by rfl)
    (hs : starEach [a, b, c] X.env = (false, eval a X.env) :: starEach [b, c] X.env := by rfl) (hpl : (backTo pos (starEach [b, c] X.env)).any (·.1) = false := by rfl) :
    IV X tg (.Call (.Name "range" p) [a, b, c] [] pos) (wRng (aCons f (aCons g (aCons k aNil)))) := let ⟨_, h1, h2⟩ := h; ⟨_, pi_range3 hg hm h1 hs hpl, ivR_r3 h2⟩
theorem iv_zip (hm : X.mg "zip" = none) (h : AV X [a, b] l) (hg : Gl X "zip" := by rfl) (hs : starEach [a, b] X.env = (false, eval a X.env) :: starEach [b] X.env := by rfl) (hpl : (backTo pos (starEach [b] X.env)).any (·.1) = false := by rfl) :
    IV X (.Tuple elts kk tpos) (.Call (.Name "zip" p) [a, b] [] pos) (wZip l) := let ⟨_, h1, h2⟩ := h; ⟨_, RZ.pi_zipA hg hm h1 hs hpl, ivR_zip h2⟩
end
end EV
namespace EV
open PySem PySem.Spec PyProof.Rows L2

/-! ### operators on data -/
def lim : Nat := 100000
def mulOk (i j : Int) : Bool := decide (-(2 ^ 64) < i ∧ i < 2 ^ 64) || decide (-(2 ^ 64) < j ∧ j < 2 ^ 64)
def dAdd (x y : PyData) : Option PyData := match x, y with
  | .int a, .int b => some (.int (a + b))
  | .tuple a, .tuple b => if a.length + b.length ≤ lim then some (.tuple (a ++ b)) else none
  | .list a, .list b => if a.length + b.length ≤ lim then some (.list (a ++ b)) else none
  | .str a, .str b => if a.length + b.length ≤ lim then some (.str (a ++ b)) else none
  | _, _ => none
def dSub (x y : PyData) : Option PyData := match x, y with
  | .int a, .int b => some (.int (a - b))
  | _, _ => none
def dMul (x y : PyData) : Option PyData := match x, y with
  | .int a, .int b => if mulOk a b = true then some (.int (a * b)) else none
  | .list a, .int k => if -(2 ^ 63) ≤ k ∧ k < 2 ^ 63 ∧ a.length * k.toNat ≤ lim then some (.list (List.replicate k.toNat a).flatten) else none
  | .tuple a, .int k => if -(2 ^ 63) ≤ k ∧ k ≤ 1000 ∧ a.length ≤ 1000 then some (.tuple (List.replicate k.toNat a).flatten) else none
  | _, _ => none
def dDiv (x y : PyData) : Option PyData := match x, y with
  | .int a, .int b => if b ≠ 0 ∧ b.natAbs < 1073741824 then some (.int (a.fdiv b)) else (if 0 < b ∧ b.natAbs.log2 < 9000 then some (.int (a / b)) else none)
  | _, _ => none
def dMod (x y : PyData) : Option PyData := match x, y with
  | .int a, .int b => if b ≠ 0 then some (.int (a.fmod b)) else none
  | _, _ => none
def powOk (i j : Int) : Bool := decide (0 ≤ j ∧ j ≤ 1000 ∧ i.natAbs < 2 ^ 64)
def dPow (x y : PyData) : Option PyData := match x, y with
  | .int a, .int b => if powOk a b = true then some (.int (a ^ b.toNat)) else none
  | _, _ => none
def dShl (x y : PyData) : Option PyData := match x, y with
  | .int a, .int b => if powOk a b = true then some (.int (a * 2 ^ b.toNat)) else none
  | _, _ => none
def dNeg (x : PyData) : Option PyData := match x with
  | .int a => some (.int (-a))
  | _ => none
def dCmp (c : Int → Int → Bool) (x y : PyData) : Option PyData := match x, y with
  | .int a, .int b => some (.bool (c a b))
  | _, _ => none
def cLt (a b : Int) : Bool := decide (a < b)
def cLe (a b : Int) : Bool := decide (a ≤ b)
def cGt (a b : Int) : Bool := decide (b < a)
def cGe (a b : Int) : Bool := decide (b ≤ a)
def eqOk (x y : PyData) : Bool := x.plain && (y.plain && decide (min x.depth y.depth ≤ 60))
def dEq (x y : PyData) : Option PyData := if eqOk x y = true then some (.bool (PyData.eqv x y)) else none
def dNe (x y : PyData) : Option PyData := if eqOk x y = true then some (.bool (!PyData.eqv x y)) else none
def inOk (xs : List PyData) (d : PyData) : Bool := PyData.plainAll xs && (d.plain && decide (min (PyData.depthAll xs) d.depth ≤ 60))
def subStr (x y : Str) : Bool := !(Builtin.Str.occurrences y x 0 y.length 1).isEmpty
def dIn (x y : PyData) : Option PyData := match y with
  | .list ds => if inOk ds x = true then some (.bool (ds.any fun z => PyData.eqv z x)) else none
  | .tuple ds => if inOk ds x = true then some (.bool (ds.any fun z => PyData.eqv z x)) else none
  | .str z => (match x with
    | .str u => some (.bool (subStr u z))
    | _ => none)
  | y => dInD x y
def dNotIn (x y : PyData) : Option PyData := match y with
  | .list ds => if inOk ds x = true then some (.bool (!ds.any fun z => PyData.eqv z x)) else none
  | .tuple ds => if inOk ds x = true then some (.bool (!ds.any fun z => PyData.eqv z x)) else none
  | .str z => (match x with
    | .str u => some (.bool (!subStr u z))
    | _ => none)
  | y => dNotInD x y
def isNone (x : PyData) : Bool := match x with
  | .none => true
  | _ => false
def dIs (x y : PyData) : Option PyData := match y with
  | .none => some (.bool (isNone x))
  | .bool b => (match x with
    | .bool a => some (.bool (decide (a = b)))
    | _ => none)
  | _ => none
def dIsNot (x y : PyData) : Option PyData := match y with
  | .none => some (.bool (!isNone x))
  | .bool b => (match x with
    | .bool a => some (.bool (!decide (a = b)))
    | _ => none)
  | _ => none
def dIx (x k : PyData) : Option PyData := match x with
  | .list ds => (match k with
    | .int i => atI ds i
    | _ => none)
  | .tuple ds => (match k with
    | .int i => atI ds i
    | _ => none)
  | .str z => (match k with
    | .int i => if z.length ≤ lim then (atI z.cps.toList i).map fun c => .str ⟨#[c]⟩ else none
    | _ => none)
  | x => dGetD x k

section
variable {P : Program} {w : World} {K : PySem.W.Frag} {H : Hp} {F : Fb}
theorem lim_line {n : Nat} (h : n ≤ lim) : n ≤ sizeLine := le_line (Nat.le_trans h (by decide))
theorem DenAll.dp : ∀ {vs : List V} {ds : List PyData}, DenAll P w K H F vs ds → True := fun _ => trivial
mutual
theorem den_dp : ∀ {d : PyData} {v : V}, Den P w K H F v d → d.plain = true → Dp K H v d
  | .none, _, h, _ => by cases h; exact .non
  | .bool b, _, h, _ => by cases h; exact .bl b
  | .int i, _, h, _ => by cases h; exact .int i
  | .str x, _, h, _ => by cases h; exact .str x
  | .list ds, _, h, p => by
    obtain ⟨a, xs, rfl, hq, t⟩ := h.sqL
    rw [PyData.plain] at p
    exact .lst hq (denAll_dp t p)
  | .tuple ds, _, h, p => by
    obtain ⟨a, xs, rfl, hq, t⟩ := h.sqT
    rw [PyData.plain] at p
    exact .tup hq (denAll_dp t p)
  | .dict _, _, _, p => by rw [PyData.plain] at p; cases p
theorem denAll_dp : ∀ {ds : List PyData} {vs : List V}, DenAll P w K H F vs ds → PyData.plainAll ds = true → DpAll K H vs ds
  | [], _, h, _ => by cases h; exact .nil
  | d :: ds, _, h, p => by
    rw [PyData.plainAll, Bool.and_eq_true] at p
    cases h with
    | cons h t => exact .cons (den_dp h p.1) (denAll_dp t p.2)
end
theorem denX_dp {d : PyData} {v : V} (h : DenX P w K H F v d) (p : d.plain = true) : Dp K H v d := by
  cases h with
  | of h => exact den_dp h p
  | ow h => cases h with
    | lst q t => rw [PyData.plain] at p; exact .lst (.inl (.of q)) (denAll_dp t p)
    | dk => rw [PyData.plain] at p; cases p
    | dt => rw [PyData.plain] at p; cases p
theorem atI_den {vs : List V} {ds : List PyData} {i : Int} {d : PyData} (h : DenAll P w K H F vs ds) (e : atI ds i = some d) : ∃ v, atI vs i = some v ∧ Den P w K H F v d := by
  unfold atI at e ⊢
  obtain ⟨j, h1, h2⟩ := Option.bind_eq_some_iff.mp e
  obtain ⟨v, hv, dn⟩ := h.get h2
  exact ⟨v, by rw [h.length, h1]; exact hv, dn⟩
theorem DenX.strv {v : V} {b : Str} (h : DenX P w K H F v (.str b)) : v = .str b := by
  cases h with
  | of h => cases h; rfl
  | ow h => cases h
theorem DenX.nonv {v : V} (h : DenX P w K H F v .none) : v = .non := by
  cases h with
  | of h => cases h; rfl
  | ow h => cases h
theorem DenX.isNon {v : V} {d : PyData} (h : DenX P w K H F v d) : decide (v = .non) = isNone d := by
  cases h with
  | of h => cases h <;> rfl
  | ow h => cases h <;> rfl
theorem den_tup_of {v : V} {ds : List PyData} (h : DenX P w K H F v (.tuple ds)) : Den P w K H F v (.tuple ds) := by
  cases h with
  | of h => exact h
  | ow h => cases h
theorem ndF (hF : ∀ a, F a → ∃ o, H a = some o) {p : Addr} (hp : H p = none) : ¬ F p := fun z => by
  obtain ⟨o, q⟩ := hF p z
  rw [hp] at q
  cases q
theorem dpAll_all {vs : List V} {ds : List PyData} (h : DenAll P w K H F vs ds) (p : PyData.plainAll ds = true) : DpAll K H vs ds := denAll_dp h p
end
section
variable {X : Cx}
theorem list_addW (l : Addr) (items : Array Value) (n : Nat) (b : Addr) (items2 : Array Value) (n2 : Nat) (sl sl2 : Array (Option Value)) (hc0 : items.size + items2.size ≤ sizeLine) :
    Meets (Builtin.«list.__add__» ⟨[.ref l, .ref b], []⟩) (fun _ R s => s.heap.get? l = some { cls := .type "list", dict := none, data := .seq items n, slots := sl } ∧ s.heap.get? b = some { cls := .type "list", dict := none, data := .seq items2 n2, slots := sl2 } ∧ R (.ok (.ret (Value.ref s.heap.objs.size))) { s with heap := s.heap.push { cls := Value.type "list", data := Data.seq (items ++ items2) }, toks := s.toks }) :=
  .of_wp fun prog w A R s h => by obtain ⟨hp, g, d, tk, os⟩ := s; obtain ⟨hl, hb, h⟩ := h; have f1 := AutoSeq1.idx_int; have f2 := AutoSeq1.sub_tuple_tuple; have f3 := AutoSeq1.sub_list_list; have f4 := AutoSeq1.sub_tuple_list; have f5 := AutoSeq1.sub_list_tuple; wp_walk using wpAny_loadPart' hl, wpAny_loadPart' hb; exact ⟨_, rfl, h⟩
theorem list_mulW (l : Addr) (items : Array Value) (n : Nat) (sl : Array (Option Value)) (x : Int) (u : Tok) (hc0 : ¬(!Builtin.List.listFitsIndex x) = true) (hc1 : ¬items.size * x.toNat > (2 ^ 63 - 1) / 8) (hc2 : ¬Builtin.List.listTooLong (items.size * x.toNat) = true) :
    Meets (Builtin.«list.__mul__» ⟨[.ref l, .int x u], []⟩) (fun _ R s => s.heap.get? l = some { cls := .type "list", dict := none, data := .seq items n, slots := sl } ∧ R (.ok (.ret (Value.ref s.heap.objs.size))) { s with heap := s.heap.push { cls := Value.type "list", data := Data.seq (List.foldl (fun x1 x2 => x1 ++ x2) #[] (List.replicate (if items.isEmpty = true then 0 else x.toNat) items)) }, toks := s.toks }) :=
  .of_wp fun prog w A R s h => by
    obtain ⟨hp, g, d, tk, os⟩ := s; obtain ⟨hl, h⟩ := h
    have hsz := AutoListH.joined_fits hc2
    wp_walk using wpAny_loadPart' hl; refine wpAny_ite_false (decide_eq_false (Nat.not_lt.mpr hsz)) ?_; wp_walk; exact ⟨_, rfl, h⟩
theorem int_rmul_listW (a : Int) (t : Tok) (l : Addr) (items : Array Value) (n : Nat) (sl : Array (Option Value)) :
    Meets (Builtin.«int.__rmul__» ⟨[.int a t, .ref l], []⟩) (fun _ R s => s.heap.get? l = some { cls := .type "list", dict := none, data := .seq items n, slots := sl } ∧ R (.ok (.ret Value.notImplemented)) s) :=
  .of_wp fun prog w A R s h => by obtain ⟨hp, g, d, tk, os⟩ := s; obtain ⟨hl, h⟩ := h; wp_walk using wpAny_loadPart' hl; exact ⟨_, rfl, h⟩
theorem op_addD : OpS X (binaryOp .Add) dAdd := by
  intro pins s σ H x y v u Q I rx ry h
  obtain ⟨F, d, e, z, ht, hx, hy, ez, q⟩ := h
  unfold dAdd at ez
  split at ez
  · cases ez
    obtain rfl := hx.int
    obtain rfl := hy.int
    exact op_add pins s σ H _ _ v u Q I rx ry ⟨_, _, rfl, rfl, q _ H (fun _ _ z => z) (.int _)⟩
  · split at ez
    · rename_i hl
      cases ez
      obtain ⟨a, xs, rfl, hq, t⟩ := hx.sqT
      obtain ⟨b, ys, rfl, hq2, t2⟩ := hy.sqT
      refine op_catA pins s σ H _ _ v u Q I rx ry ⟨a, b, xs, ys, rfl, rfl, hq, hq2, by rw [t.length, t2.length]; exact lim_line hl, fun e => ?_, fun _ e => ?_, fun _ _ p hp => ?_⟩
      · subst e
        cases t
        exact q _ H (fun _ _ z => z) (den_tup_of hy)
      · subst e
        cases t2
        rw [List.append_nil] at q
        exact q _ H (fun _ _ z => z) (den_tup_of hx)
      · have ex := ext_new (o := .tup (xs ++ ys)) hp
        exact q _ _ ex (.tup (ndF ht hp) (.inl upd_same) ((t.append t2).ext ex))
    · cases ez
  · split at ez
    · rename_i hl
      cases ez
      obtain ⟨a, xs, rfl, hq, t⟩ := hx.sqL
      obtain ⟨b, ys, rfl, hq2, t2⟩ := hy.sqL
      obtain rfl : v = Value.ref a := rx
      obtain rfl : u = Value.ref b := ry
      obtain ⟨its, r, pl, z⟩ := I.list hq
      obtain ⟨its2, r2, pl2, z2⟩ := I.list hq2
      obtain ⟨n, sl, e⟩ := list_obj pl
      obtain ⟨n2, sl2, e2⟩ := list_obj pl2
      have hle := r.length
      have hle2 := r2.length
      have hz : xs.length + ys.length ≤ sizeLine := by rw [t.length, t2.length]; exact lim_line hl
      refine concat_meets ⟨_, e, rfl⟩ ⟨_, e2, rfl⟩ noFill_list_add seq_list_add PySem.F.slot_list_add PySem.F.entry_list_add (PySem.F.args_list_add_2 _ _) (list_addW a its.toArray n b its2.toArray n2 sl sl2 (by rw [List.size_toArray, List.size_toArray]; omega)) ⟨e, e2, ?_⟩
      have ea : its.toArray ++ its2.toArray = (its ++ its2).toArray := by simp
      rw [ea]
      have ex := ext_new (o := .lst (xs ++ ys)) I.fresh
      exact ⟨.ref _, _, I.lnew (t' := s.toks) (r.append r2) (by rw [List.length_append]; exact hz), rfl, q _ _ ex (.lst (ndF ht I.fresh) (.inl upd_same) ((t.append t2).ext ex))⟩
    · cases ez
  · split at ez
    · rename_i hl
      cases ez
      obtain rfl := hx.strv
      obtain rfl := hy.strv
      obtain ⟨t, rfl⟩ := rx
      obtain ⟨t', rfl⟩ := ry
      exact SB.add (hsz := lim_line hl) fun t' k => ⟨.str _, H, I.tok _, ⟨_, rfl⟩, q _ H (fun _ _ z => z) (.str _)⟩
    · cases ez
  · cases ez
theorem op_intD {fv : Value → Value → Sem Value} {C : Int → Int → Prop} {g : Int → Int → V} {o : PyData → PyData → Option PyData} {gd : Int → Int → PyData} (h : OpR X fv (rI C g)) (hg : ∀ {P w K H F} i j, Den P w K H F (g i j) (gd i j))
    (ho : ∀ x y z, o x y = some z → ∃ i j, x = .int i ∧ y = .int j ∧ C i j ∧ z = gd i j) : OpS X fv o := by
  intro pins s σ H x y v u Q I rx ry hh
  obtain ⟨F, d, e, z, ht, hx, hy, ez, q⟩ := hh
  obtain ⟨i, j, rfl, rfl, c, rfl⟩ := ho d e z ez
  obtain rfl := hx.int
  obtain rfl := hy.int
  exact h pins s σ H _ _ v u Q I rx ry ⟨i, j, rfl, rfl, c, q _ H (fun _ _ z => z) (hg i j)⟩
theorem op_intD0 {fv : Value → Value → Sem Value} {g : Int → Int → V} {o : PyData → PyData → Option PyData} {gd : Int → Int → PyData} (h : OpR X fv (rI0 g)) (hg : ∀ {P w K H F} i j, Den P w K H F (g i j) (gd i j))
    (ho : ∀ x y z, o x y = some z → ∃ i j, x = .int i ∧ y = .int j ∧ z = gd i j) : OpS X fv o := by
  intro pins s σ H x y v u Q I rx ry hh
  obtain ⟨F, d, e, z, ht, hx, hy, ez, q⟩ := hh
  obtain ⟨i, j, rfl, rfl, rfl⟩ := ho d e z ez
  obtain rfl := hx.int
  obtain rfl := hy.int
  exact h pins s σ H _ _ v u Q I rx ry ⟨i, j, rfl, rfl, q _ H (fun _ _ z => z) (hg i j)⟩
theorem op_subD : OpS X (binaryOp .Sub) dSub := op_intD0 op_sub (gd := fun i j => .int (i - j)) (fun i j => .int _) fun x y z e => by
  unfold dSub at e
  split at e
  · cases e; exact ⟨_, _, rfl, rfl, rfl⟩
  · cases e
theorem op_modD : OpS X (binaryOp .Mod) dMod := op_intD op_modN (gd := fun i j => .int (i.fmod j)) (fun i j => .int _) fun x y z e => by
  unfold dMod at e
  split at e
  · split at e
    · rename_i h
      cases e; exact ⟨_, _, rfl, rfl, h, rfl⟩
    · cases e
  · cases e
theorem op_powD : OpS X (binaryOp .Pow) dPow := op_intD op_pow (gd := fun i j => .int (i ^ j.toNat)) (fun i j => .int _) fun x y z e => by
  unfold dPow at e
  split at e
  · split at e
    · rename_i h
      have h := of_decide_eq_true h
      cases e; exact ⟨_, _, rfl, rfl, ⟨h.1, by omega, h.2.2⟩, rfl⟩
    · cases e
  · cases e
theorem op_shlD : OpS X (binaryOp .LShift) dShl := op_intD op_shl (gd := fun i j => .int (i * 2 ^ j.toNat)) (fun i j => .int _) fun x y z e => by
  unfold dShl at e
  split at e
  · split at e
    · rename_i h
      have h := of_decide_eq_true h
      cases e; exact ⟨_, _, rfl, rfl, ⟨h.1, by omega, h.2.2⟩, rfl⟩
    · cases e
  · cases e
theorem op_divD : OpS X (binaryOp .FloorDiv) dDiv := by
  intro pins s σ H x y v u Q I rx ry hh
  obtain ⟨F, d, e, z, ht, hx, hy, ez, q⟩ := hh
  unfold dDiv at ez
  split at ez
  · split at ez
    · rename_i h
      cases ez
      obtain rfl := hx.int
      obtain rfl := hy.int
      exact op_fdivN pins s σ H _ _ v u Q I rx ry ⟨_, _, rfl, rfl, h, q _ H (fun _ _ z => z) (.int _)⟩
    · split at ez
      · rename_i h
        cases ez
        obtain rfl := hx.int
        obtain rfl := hy.int
        exact op_fdivW pins s σ H _ _ v u Q I rx ry ⟨_, _, rfl, rfl, h, q _ H (fun _ _ z => z) (.int _)⟩
      · cases ez
  · cases ez
/-- a list times an int, at the values -/
theorem rep_walk {pins : List (Addr × Obj)} {σ : L2.St} {H : Hp} {s : Shared} {l : Addr} {k : Int} {xs : List V} {v u : Value} {Q : VK} (I : Inv X pins σ H s) (rx : RelV (.ref l) v) (ry : RelV (.int k) u) (hH : SqL X.K H l xs) (h1 : -(2 ^ 63) ≤ k) (h2 : k < 2 ^ 63)
    (hz : xs.length * k.toNat ≤ sizeLine) (q : ∀ p, H p = none → Q (.ref p) (upd H p (.lst (List.replicate k.toNat xs).flatten))) : wpAny (model X.prog X.w) X.A (binaryOp .Mult v u) (EP X pins σ Q) X.xe s := by
  cases rx
  obtain ⟨t, rfl⟩ := ry
  obtain ⟨its, r, pl, z⟩ := I.list hH
  obtain ⟨n, sl, e⟩ := list_obj pl
  have hl := r.length
  have hlen : its.toArray.size * k.toNat ≤ sizeLine := by rw [List.size_toArray, ← hl]; exact hz
  have hcap : ¬ its.toArray.size * k.toNat > (2 ^ 63 - 1) / 8 := by
    have : (sizeLine : Nat) ≤ (2 ^ 63 - 1) / 8 := by decide
    omega
  have hfit : ¬ (!Builtin.List.listFitsIndex k) = true := by
    rw [fitsIndex_both h1 h2]
    exact Bool.false_ne_true
  have hlong : ¬ Builtin.List.listTooLong (its.toArray.size * k.toNat) = true := by
    rw [notLongL hlen]
    exact Bool.false_ne_true
  have hnew : List.foldl (fun x1 x2 => x1 ++ x2) #[] (List.replicate (if its.toArray.isEmpty = true then 0 else k.toNat) its.toArray) = (List.replicate k.toNat its).flatten.toArray := by
    have f0 : ∀ m : Nat, List.foldl (fun x1 x2 => x1 ++ x2) #[] (List.replicate m its.toArray) = (List.replicate m its).flatten.toArray := fun m => by
      have := foldl_rep its m []
      rw [List.nil_append] at this
      exact this
    rw [f0]
    cases its with
    | nil => simp
    | cons a r' => rw [if_neg (by simp)]
  refine wpAny_binaryOp_repeat_ref (T := "list") (U := "int") (by decide) ⟨_, e, rfl⟩ (fun s' => typeIs_int s' k t) noFill_list_mul PySem.F.fills_int_mul PySem.F.slot_int_rmul repeat_list PySem.F.slot_int_index.lookup
    (call_meets PySem.F.slot_int_rmul (typeIs_int s k t) PySem.F.entry_int_rmul (PySem.F.args_int_rmul_2 _ _) (int_rmul_listW k t l its.toArray n sl)
      ⟨e, rfl, ⟨_, e, rfl⟩, call_meets PySem.F.slot_list_mul ⟨_, e, rfl⟩ PySem.F.entry_list_mul (PySem.F.args_list_mul_2 _ _) (list_mulW l its.toArray n sl k t hfit hcap hlong) ⟨e, ?_⟩⟩)
  rw [hnew]
  exact ⟨.ref _, _, I.lnew (t' := s.toks) (r.rep k.toNat) (by rw [PyProof.Rows.lm_len_rep_flat, Nat.mul_comm]; exact hz), rfl, q _ I.fresh⟩
/-- [x] * n, a new list -/
def dRep (x y : PyData) : Option PyData := match x, y with
  | .list a, .int k => if -(2 ^ 63) ≤ k ∧ k < 2 ^ 63 ∧ a.length * k.toNat ≤ lim then some (.list (List.replicate k.toNat a).flatten) else none
  | _, _ => none
theorem op_repN : OpN X (binaryOp .Mult) dRep := by
  intro pins s σ H x y v u Q I rx ry hh
  obtain ⟨F, d, e, z, hF, hx, hy, ez, q⟩ := hh
  unfold dRep at ez
  split at ez
  · split at ez
    · rename_i k h
      cases ez
      obtain rfl := hy.int
      obtain ⟨l, xs, rfl, hq, t⟩ := hx.sqL
      refine rep_walk I rx ry hq h.1 h.2.1 (by rw [t.length]; exact lim_line h.2.2) fun p hp => ?_
      exact q _ _ (ext_new hp) hp (.lst upd_same (denAll_new (ext_new hp) hp (t.rep _)))
    · cases ez
  · cases ez
theorem tuple_mul1 (l : Addr) (items : Array Value) (n : Nat) (dd : Option Addr) (sl : Array (Option Value)) (x : Int) (u : Tok) (c0 : (decide (x < -(2 ^ 63)) || decide (x ≥ 2 ^ 63)) = false) (c1 : (items.isEmpty || x == 1) = true) :
    Meets (Builtin.«tuple.__mul__» ⟨[.ref l, .int x u], []⟩) (fun _ R s => s.heap.get? l = some { cls := .type "tuple", dict := dd, data := .seq items n, slots := sl } ∧ R (.ok (.ret (Value.ref l))) s) :=
  .of_wp fun prog w A R s h => by
    obtain ⟨hp, g, d, tk, os⟩ := s
    obtain ⟨hl, h⟩ := h
    have f1 := AutoSeq1.idx_int
    wp_walk using wpAny_loadPart' hl
    repeat (first
      | (refine wpAny_ite_false (decide_eq_false (by rw [c0]; exact Bool.false_ne_true)) ?_; wp_walk using wpAny_loadPart' hl)
      | (refine wpAny_ite_true (decide_eq_true c1) ?_; wp_walk using wpAny_loadPart' hl))
    exact ⟨_, rfl, h⟩
theorem tuple_mul0 (l : Addr) (items : Array Value) (n : Nat) (dd : Option Addr) (sl : Array (Option Value)) (x : Int) (u : Tok) (c0 : (decide (x < -(2 ^ 63)) || decide (x ≥ 2 ^ 63)) = false) (c1 : (items.isEmpty || x == 1) = false) (c2 : (decide (x ≤ 0) || items.isEmpty) = true) :
    Meets (Builtin.«tuple.__mul__» ⟨[.ref l, .int x u], []⟩) (fun _ R s => s.heap.get? l = some { cls := .type "tuple", dict := dd, data := .seq items n, slots := sl } ∧
      R (.ok (.ret (Value.ref s.heap.objs.size))) { s with heap := s.heap.push { cls := Value.type "tuple", data := Data.seq #[] } }) :=
  .of_wp fun prog w A R s h => by
    obtain ⟨hp, g, d, tk, os⟩ := s
    obtain ⟨hl, h⟩ := h
    have f1 := AutoSeq1.idx_int
    wp_walk using wpAny_loadPart' hl
    repeat (first
      | (refine wpAny_ite_false (decide_eq_false (by rw [c0]; exact Bool.false_ne_true)) ?_; wp_walk using wpAny_loadPart' hl)
      | (refine wpAny_ite_false (decide_eq_false (by rw [c1]; exact Bool.false_ne_true)) ?_; wp_walk using wpAny_loadPart' hl)
      | (refine wpAny_ite_true (decide_eq_true c2) ?_; wp_walk using wpAny_loadPart' hl))
    exact ⟨_, rfl, h⟩
theorem rep_nil {α : Type} (k : Nat) : (List.replicate k ([] : List α)).flatten = [] := by
  induction k with
  | zero => rfl
  | succ k ih => rw [List.replicate_succ, List.flatten_cons, ih]; rfl
/-- a tuple times an int that is none, or one, or of an empty one -/
theorem rep_tup {pins : List (Addr × Obj)} {σ : L2.St} {H : Hp} {s : Shared} {l : Addr} {k : Int} {xs : List V} {v u : Value} {Q : VK} (I : Inv X pins σ H s) (rx : RelV (.ref l) v) (ry : RelV (.int k) u) (hT : SqT X.K H l xs) (h1 : -(2 ^ 63) ≤ k) (h2 : k ≤ 1000) (h3 : xs.length ≤ 1000)
    (q1 : (List.replicate k.toNat xs).flatten = xs → Q (.ref l) H) (q2 : ∀ p, H p = none → Q (.ref p) (upd H p (.tup (List.replicate k.toNat xs).flatten))) : wpAny (model X.prog X.w) X.A (binaryOp .Mult v u) (EP X pins σ Q) X.xe s := by
  by_cases hs : xs = [] ∨ k ≤ 1
  · cases rx
    obtain ⟨t, rfl⟩ := ry
    obtain ⟨its, r, ⟨⟨cls, dd, data, sl⟩, ho, hc, n, hd⟩, hz⟩ := I.tuple hT
    simp only at hc hd
    subst hc hd
    have hle : its.length = xs.length := r.length.symm
    have c0 : (decide (k < -(2 ^ 63)) || decide (k ≥ 2 ^ 63)) = false := by
      rw [decide_eq_false (by omega), decide_eq_false (by omega)] <;> rfl
    refine wpAny_binaryOp_repeat_ref (T := "tuple") (U := "int") (by decide) ⟨_, ho, rfl⟩ (fun s' => typeIs_int s' k t) noFill_tuple_mul PySem.F.fills_int_mul PySem.F.slot_int_rmul repeat_tuple PySem.F.slot_int_index.lookup
      (call_meets PySem.F.slot_int_rmul (typeIs_int s k t) PySem.F.entry_int_rmul (PySem.F.args_int_rmul_2 _ _) (int_rmul_tuple k t l its.toArray n dd sl) ⟨ho, rfl, ⟨_, ho, rfl⟩, ?_⟩)
    by_cases h0 : xs = [] ∨ k = 1
    · have c1 : (its.toArray.isEmpty || k == 1) = true := by
        rcases h0 with h0 | h0
        · subst h0
          have : its = [] := List.eq_nil_of_length_eq_zero hle
          rw [this]; rfl
        · rw [h0]; simp
      refine call_meets PySem.F.slot_tuple_mul ⟨_, ho, rfl⟩ PySem.F.entry_tuple_mul (PySem.F.args_tuple_mul_2 _ _) (tuple_mul1 l its.toArray n dd sl k t c0 c1) ⟨ho, .ref l, H, I, rfl, q1 ?_⟩
      rcases h0 with h0 | h0
      · rw [h0, rep_nil]
      · rw [h0]; simp
    · have hx : xs ≠ [] := fun z => h0 (.inl z)
      have hk : k ≤ 0 := by
        rcases hs with z | z
        · exact absurd z hx
        · have : k ≠ 1 := fun z => h0 (.inr z)
          omega
      have hi : its.toArray.isEmpty = false := by
        cases its with
        | nil => exact absurd (List.eq_nil_of_length_eq_zero hle.symm) hx
        | cons a b => rfl
      refine call_meets PySem.F.slot_tuple_mul ⟨_, ho, rfl⟩ PySem.F.entry_tuple_mul (PySem.F.args_tuple_mul_2 _ _) (tuple_mul0 l its.toArray n dd sl k t c0 (by rw [hi, Bool.false_or]; exact beq_eq_false_iff_ne.mpr (by omega)) (by rw [decide_eq_true hk]; rfl)) ⟨ho, ?_⟩
      have ez : (List.replicate k.toNat xs).flatten = [] := by rw [show k.toNat = 0 by omega]; rfl
      rw [ez] at q2
      exact ⟨.ref s.heap.objs.size, _, I.laid (t' := s.toks) (o := .tup []) (fun b ob q => Heap.get?_push_of_some _ q) (Nat.le_refl _) ⟨Nat.zero_le _, [], .nil, IsTup.new _ _⟩, rfl, q2 _ (I.hok.fresh (Nat.le_refl _))⟩
  · exact op_repT _ s σ H _ _ v u Q I rx ry ⟨l, k, xs, rfl, rfl, hT, fun z => hs (.inl z), by omega, h2, h3, q2⟩
theorem mulOk_of {i j : Int} (h : mulOk i j = true) : CMul i j := by
  unfold mulOk at h
  rw [Bool.or_eq_true] at h
  exact h.elim (fun h => .inl (of_decide_eq_true h)) fun h => .inr (of_decide_eq_true h)
theorem rep_same {P : Program} {w : World} {K : PySem.W.Frag} {H : Hp} {F : Fb} {k : Nat} {xs : List V} {ds : List PyData} (t : DenAll P w K H F xs ds) (e : (List.replicate k xs).flatten = xs) : (List.replicate k ds).flatten = ds := by
  have hl : ((List.replicate k xs).flatten).length = xs.length := by rw [e]
  rw [PyProof.Rows.lm_len_rep_flat, t.length] at hl
  cases ds with
  | nil => exact rep_nil k
  | cons d ds =>
    rw [List.length_cons] at hl
    have : k = 1 := by
      rcases k with _ | _ | k
      · omega
      · rfl
      · rw [Nat.add_mul, Nat.add_mul] at hl; omega
    subst this
    simp
theorem op_mulD : OpS X (binaryOp .Mult) dMul := by
  intro pins s σ H x y v u Q I rx ry hh
  obtain ⟨F, d, e, z, hF, hx, hy, ez, q⟩ := hh
  unfold dMul at ez
  split at ez
  · split at ez
    · rename_i h
      cases ez
      obtain rfl := hx.int
      obtain rfl := hy.int
      exact op_mul pins s σ H _ _ v u Q I rx ry ⟨_, _, rfl, rfl, mulOk_of h, q _ H (fun _ _ z => z) (.int _)⟩
    · cases ez
  · split at ez
    · rename_i k h
      cases ez
      obtain rfl := hy.int
      obtain ⟨l, xs, rfl, hq, t⟩ := hx.sqL
      refine rep_walk I rx ry hq h.1 h.2.1 (by rw [t.length]; exact lim_line h.2.2) fun p hp => ?_
      have ex := ext_new (o := .lst (List.replicate k.toNat xs).flatten) hp
      exact q _ _ ex (.lst (ndF hF hp) (.inl upd_same) ((t.rep _).ext ex))
    · cases ez
  · split at ez
    · rename_i k h
      cases ez
      obtain rfl := hy.int
      obtain ⟨l, xs, rfl, hq, t⟩ := hx.sqT
      refine rep_tup I rx ry hq h.1 h.2.1 (by rw [t.length]; exact h.2.2) (fun e => ?_) fun p hp => ?_
      · have t2 := t.rep k.toNat
        rw [e] at t2
        have e2 : (List.replicate k.toNat _).flatten = _ := rep_same t e
        rw [e2] at q
        exact q _ H (fun _ _ z => z) (den_tup_of hx)
      · have ex := ext_new (o := .tup (List.replicate k.toNat xs).flatten) hp
        exact q _ _ ex (.tup (ndF hF hp) (.inl upd_same) ((t.rep _).ext ex))
    · cases ez
  · cases ez
theorem op_cmpD {cop : CmpOp} {c : Int → Int → Bool} (h : OpR X (compareOp cop) (rI0 fun i j => .bl (c i j))) : OpS X (compareOp cop) (dCmp c) := op_intD0 h (gd := fun i j => .bool (c i j)) (fun i j => .bl _) fun x y z e => by
  unfold dCmp at e
  split at e
  · cases e; exact ⟨_, _, rfl, rfl, rfl⟩
  · cases e
theorem op_ltD : OpS X (compareOp .Lt) (dCmp cLt) := op_cmpD op_lt
theorem op_leD : OpS X (compareOp .LtE) (dCmp cLe) := op_cmpD op_le
theorem op_gtD : OpS X (compareOp .Gt) (dCmp cGt) := op_cmpD op_gt
theorem op_geD : OpS X (compareOp .GtE) (dCmp cGe) := op_cmpD op_ge
theorem op_eqD' (hu : X.A.units + 64 < cLine) : OpS X (compareOp .Eq) dEq := by
  intro pins s σ H x y v u Q I rx ry hh
  obtain ⟨F, d, e, z, hF, hx, hy, ez, q⟩ := hh
  unfold dEq at ez
  split at ez
  · rename_i h
    cases ez
    unfold eqOk at h
    rw [Bool.and_eq_true, Bool.and_eq_true] at h
    obtain ⟨as, r1⟩ := Dp.reads I d x v (denX_dp hx h.1) rx
    obtain ⟨bs, r2⟩ := Dp.reads I e y u (denX_dp hy h.2.1) ry
    have hd := of_decide_eq_true h.2.2
    exact SeqAt.eq_plain r1 r2 h.1 h.2.1 (by omega) ⟨.bl _, H, I, rfl, q _ H (fun _ _ z => z) (.bl _)⟩
  · cases ez
theorem op_neD' (hu : X.A.units + 64 < cLine) : OpS X (compareOp .NotEq) dNe := by
  intro pins s σ H x y v u Q I rx ry hh
  obtain ⟨F, d, e, z, hF, hx, hy, ez, q⟩ := hh
  unfold dNe at ez
  split at ez
  · rename_i h
    cases ez
    unfold eqOk at h
    rw [Bool.and_eq_true, Bool.and_eq_true] at h
    obtain ⟨as, r1⟩ := Dp.reads I d x v (denX_dp hx h.1) rx
    obtain ⟨bs, r2⟩ := Dp.reads I e y u (denX_dp hy h.2.1) ry
    have hd := of_decide_eq_true h.2.2
    exact SeqAt.ne_plain r1 r2 h.1 h.2.1 (by omega) ⟨.bl _, H, I, rfl, q _ H (fun _ _ z => z) (.bl _)⟩
  · cases ez
theorem inOk_of {xs : List PyData} {d : PyData} (h : inOk xs d = true) : PyData.plainAll xs = true ∧ d.plain = true ∧ min (PyData.depthAll xs) d.depth ≤ 60 := by
  unfold inOk at h
  rw [Bool.and_eq_true, Bool.and_eq_true] at h
  exact ⟨h.1, h.2.1, of_decide_eq_true h.2.2⟩
theorem op_inA (hu : X.A.units + 64 < cLine) : OpS X (compareOp .In) dIn := by
  intro pins s σ H x y v u Q I rx ry hh
  obtain ⟨F, d, e, z, hF, hx, hy, ez, q⟩ := hh
  unfold dIn at ez
  split at ez
  · split at ez
    · rename_i h
      cases ez
      obtain ⟨h1, h2, h3⟩ := inOk_of h
      obtain ⟨as, r1⟩ := Dp.reads I d x v (denX_dp hx h2) rx
      obtain ⟨bs, r2⟩ := Dp.reads I _ y u (denX_dp hy (by rw [PyData.plain]; exact h1)) ry
      exact SeqAt.in_list_data r2 r1 h1 h2 (by omega) ⟨.bl _, H, I, rfl, q _ H (fun _ _ z => z) (.bl _)⟩
    · cases ez
  · split at ez
    · rename_i h
      cases ez
      obtain ⟨h1, h2, h3⟩ := inOk_of h
      obtain ⟨as, r1⟩ := Dp.reads I d x v (denX_dp hx h2) rx
      obtain ⟨bs, r2⟩ := Dp.reads I _ y u (denX_dp hy (by rw [PyData.plain]; exact h1)) ry
      exact SeqAt.in_tuple_data r2 r1 h1 h2 (by omega) ⟨.bl _, H, I, rfl, q _ H (fun _ _ z => z) (.bl _)⟩
    · cases ez
  · split at ez
    · cases ez
      obtain rfl := hx.strv
      obtain rfl := hy.strv
      exact op_in_str pins s σ H _ _ v u Q I rx ry ⟨_, _, rfl, rfl, q _ H (fun _ _ z => z) (.bl _)⟩
    · cases ez
  · exact op_inD' hu pins s σ H x y v u Q I rx ry ⟨F, d, e, z, hF, hx, hy, ez, q⟩
theorem op_notInA (hu : X.A.units + 64 < cLine) : OpS X (compareOp .NotIn) dNotIn := by
  intro pins s σ H x y v u Q I rx ry hh
  obtain ⟨F, d, e, z, hF, hx, hy, ez, q⟩ := hh
  unfold dNotIn at ez
  split at ez
  · split at ez
    · rename_i h
      cases ez
      obtain ⟨h1, h2, h3⟩ := inOk_of h
      obtain ⟨as, r1⟩ := Dp.reads I d x v (denX_dp hx h2) rx
      obtain ⟨bs, r2⟩ := Dp.reads I _ y u (denX_dp hy (by rw [PyData.plain]; exact h1)) ry
      exact SeqAt.notIn_list_data r2 r1 h1 h2 (by omega) ⟨.bl _, H, I, rfl, q _ H (fun _ _ z => z) (.bl _)⟩
    · cases ez
  · split at ez
    · rename_i h
      cases ez
      obtain ⟨h1, h2, h3⟩ := inOk_of h
      obtain ⟨as, r1⟩ := Dp.reads I d x v (denX_dp hx h2) rx
      obtain ⟨bs, r2⟩ := Dp.reads I _ y u (denX_dp hy (by rw [PyData.plain]; exact h1)) ry
      exact SeqAt.notIn_tuple_data r2 r1 h1 h2 (by omega) ⟨.bl _, H, I, rfl, q _ H (fun _ _ z => z) (.bl _)⟩
    · cases ez
  · split at ez
    · cases ez
      obtain rfl := hx.strv
      obtain rfl := hy.strv
      exact op_notIn_str pins s σ H _ _ v u Q I rx ry ⟨_, _, rfl, rfl, q _ H (fun _ _ z => z) (.bl _)⟩
    · cases ez
  · exact op_notInD' hu pins s σ H x y v u Q I rx ry ⟨F, d, e, z, hF, hx, hy, ez, q⟩
theorem op_isD : OpS X (compareOp .Is) dIs := by
  intro pins s σ H x y v u Q I rx ry hh
  obtain ⟨F, d, e, z, hF, hx, hy, ez, q⟩ := hh
  unfold dIs at ez
  split at ez
  · cases ez
    obtain rfl := hy.nonv
    exact op_isN pins s σ H _ _ v u Q I rx ry ⟨rfl, by rw [hx.isNon]; exact q _ H (fun _ _ z => z) (.bl _)⟩
  · split at ez
    · cases ez
      obtain rfl := hx.bool
      obtain rfl := hy.bool
      exact op_isBl pins s σ H _ _ v u Q I rx ry ⟨_, _, rfl, rfl, q _ H (fun _ _ z => z) (.bl _)⟩
    · cases ez
  · cases ez
theorem op_isNotD : OpS X (compareOp .IsNot) dIsNot := by
  intro pins s σ H x y v u Q I rx ry hh
  obtain ⟨F, d, e, z, hF, hx, hy, ez, q⟩ := hh
  unfold dIsNot at ez
  split at ez
  · cases ez
    obtain rfl := hy.nonv
    exact op_notN pins s σ H _ _ v u Q I rx ry ⟨rfl, by rw [hx.isNon]; exact q _ H (fun _ _ z => z) (.bl _)⟩
  · split at ez
    · cases ez
      obtain rfl := hx.bool
      obtain rfl := hy.bool
      exact op_notBl pins s σ H _ _ v u Q I rx ry ⟨_, _, rfl, rfl, q _ H (fun _ _ z => z) (.bl _)⟩
    · cases ez
  · cases ez
theorem un_negD : UnS X (unaryOp .USub) dNeg := by
  intro pins s σ H x v Q I rx hh
  obtain ⟨F, d, z, hF, hx, ez, q⟩ := hh
  unfold dNeg at ez
  split at ez
  · cases ez
    obtain rfl := hx.int
    exact un_neg pins s σ H _ v Q I rx ⟨_, rfl, q _ H (fun _ _ z => z) (.int _)⟩
  · cases ez
theorem ix_all (hu : X.A.units + 64 < cLine) : IxS X dIx := by
  intro value slice pins s σ H x y v u Q I rx ry h hs
  obtain ⟨F, d, k, z, hF, hx, hy, e, q⟩ := h
  unfold dIx at e
  split at e
  · split at e
    · obtain rfl := hy.int
      obtain ⟨a, xs, rfl, hq, t⟩ := hx.sqL
      obtain ⟨r, h1, h2⟩ := atI_den t e
      exact ix_list value slice pins s σ H _ _ v u Q I rx ry ⟨a, xs, _, r, rfl, rfl, hq, h1, q _ H (fun _ _ z => z) h2⟩ hs
    · cases e
  · split at e
    · obtain rfl := hy.int
      obtain ⟨a, xs, rfl, hq, t⟩ := hx.sqT
      obtain ⟨r, h1, h2⟩ := atI_den t e
      exact ix_tup value slice pins s σ H _ _ v u Q I rx ry ⟨a, xs, _, r, rfl, rfl, hq, h1, q _ H (fun _ _ z => z) h2⟩ hs
    · cases e
  · split at e
    · split at e
      · rename_i hl
        obtain ⟨c, hc, e⟩ := Option.map_eq_some_iff.mp e
        cases e
        obtain rfl := hy.int
        obtain rfl := hx.strv
        exact ix_str value slice pins s σ H _ _ v u Q I rx ry ⟨_, _, c, rfl, rfl, lim_line hl, hc, q _ H (fun _ _ z => z) (.str _)⟩ hs
      · cases e
    · cases e
  · exact ix_dict hu value slice pins s σ H x y v u Q I rx ry ⟨F, d, k, z, hF, hx, hy, e, q⟩ hs

/-! ### built-ins -/
def dAbs (x : PyData) : Option PyData := match x with
  | .int a => some (.int (if a < 0 then -a else a))
  | _ => none
def dInt (x : PyData) : Option PyData := match x with
  | .int a => some (.int a)
  | .bool b => some (.int (if b then 1 else 0))
  | _ => none
def dLen (x : PyData) : Option PyData := match x with
  | .list ds => some (.int ds.length)
  | .tuple ds => some (.int ds.length)
  | .str z => if z.length ≤ lim then some (.int z.length) else none
  | _ => none
def dTuple (x : PyData) : Option PyData := match x with
  | .list ds => some (.tuple ds)
  | .tuple ds => some (.tuple ds)
  | _ => none
def dList (x : PyData) : Option PyData := match x with
  | .list ds => some (.list ds)
  | .tuple ds => some (.list ds)
  | _ => none
def dMin2 (x y : PyData) : Option PyData := match x, y with
  | .int i, .int j => some (.int (if j < i then j else i))
  | _, _ => none
def dMax2 (x y : PyData) : Option PyData := match x, y with
  | .int i, .int j => some (.int (if j > i then j else i))
  | _, _ => none
theorem c_abs : C1S X (.builtin "abs") dAbs := by
  intro pins s σ H xs us Q I r h
  obtain ⟨x, rfl, F, d, z, hF, hx, ez, q⟩ := h
  unfold dAbs at ez
  split at ez
  · cases ez
    obtain rfl := hx.int
    exact call_abs pins s σ H _ us Q I r ⟨_, rfl, q _ H (fun _ _ z => z) (.int _)⟩
  · cases ez
theorem c_int : C1S X (.type "int") dInt := by
  intro pins s σ H xs us Q I r h
  obtain ⟨x, rfl, F, d, z, hF, hx, ez, q⟩ := h
  unfold dInt at ez
  split at ez
  · cases ez
    obtain rfl := hx.int
    exact call_int1 pins s σ H _ us Q I r (.inl ⟨_, rfl, q _ H (fun _ _ z => z) (.int _)⟩)
  · cases ez
    obtain rfl := hx.bool
    exact call_int1 pins s σ H _ us Q I r (.inr ⟨_, rfl, q _ H (fun _ _ z => z) (.int _)⟩)
  · cases ez
theorem c_len : C1S X (.builtin "len") dLen := by
  intro pins s σ H xs us Q I r h
  obtain ⟨x, rfl, F, d, z, hF, hx, ez, q⟩ := h
  unfold dLen at ez
  split at ez
  · cases ez
    obtain ⟨a, ys, rfl, hq, t⟩ := hx.sqL
    exact call_len_seq pins s σ H _ us Q I r ⟨a, ys, rfl, .inl hq, by rw [t.length]; exact q _ H (fun _ _ z => z) (.int _)⟩
  · cases ez
    obtain ⟨a, ys, rfl, hq, t⟩ := hx.sqT
    exact call_len_seq pins s σ H _ us Q I r ⟨a, ys, rfl, .inr hq, by rw [t.length]; exact q _ H (fun _ _ z => z) (.int _)⟩
  · split at ez
    · rename_i hl
      cases ez
      obtain rfl := hx.strv
      exact call_len_str pins s σ H _ us Q I r ⟨_, rfl, lim_line hl, q _ H (fun _ _ z => z) (.int _)⟩
    · cases ez
  · cases ez
theorem c_tuple : C1S X (.type "tuple") dTuple := by
  intro pins s σ H xs us Q I r h
  obtain ⟨x, rfl, F, d, z, hF, hx, ez, q⟩ := h
  unfold dTuple at ez
  split at ez
  · cases ez
    obtain ⟨a, ys, rfl, hq, t⟩ := hx.sqL
    refine call_tuple_of pins s σ H _ us Q I r ⟨a, ys, rfl, .inl ⟨hq, fun p hp => ?_⟩⟩
    have ex := ext_new (o := .tup ys) hp
    exact q _ _ ex (.tup (ndF hF hp) (.inl upd_same) (t.ext ex))
  · cases ez
    obtain ⟨a, ys, e, hq, t⟩ := hx.sqT
    subst e
    exact call_tuple_of pins s σ H _ us Q I r ⟨a, ys, rfl, .inr ⟨hq, q _ H (fun _ _ z => z) (den_tup_of hx)⟩⟩
  · cases ez
theorem c_list : C1N X (.type "list") dList := by
  intro pins s σ H xs us Q I r h
  obtain ⟨x, rfl, F, d, z, hF, hx, ez, q⟩ := h
  have fin : ∀ {ys : List V} {ds : List PyData} {p : Addr}, H p = none → DenAll X.prog X.w X.K H F ys ds → Own X.prog X.w X.K (upd H p (.lst ys)) (fun x => F x ∨ x = p) p (.list ds) := fun {ys ds p} hp t =>
    .lst upd_same ((denAll_new (ext_new hp) hp t))
  unfold dList at ez
  split at ez
  · cases ez
    obtain ⟨a, ys, rfl, hq, t⟩ := hx.sqL
    exact call_list_of pins s σ H _ us Q I r ⟨a, ys, rfl, .inl hq, fun p hp => q p _ (ext_new hp) hp (fin hp t)⟩
  · cases ez
    obtain ⟨a, ys, rfl, hq, t⟩ := hx.sqT
    exact call_list_of pins s σ H _ us Q I r ⟨a, ys, rfl, .inr hq, fun p hp => q p _ (ext_new hp) hp (fin hp t)⟩
  · cases ez
theorem c_min2 (hc : X.calm = true) : C2S X (.builtin "min") dMin2 := by
  intro pins s σ H xs us Q I r h
  obtain ⟨x, y, rfl, F, d, e, z, hF, hx, hy, ez, q⟩ := h
  unfold dMin2 at ez
  split at ez
  · cases ez
    obtain rfl := hx.int
    obtain rfl := hy.int
    exact call_min2 hc pins s σ H _ us Q I r ⟨_, _, rfl, q _ H (fun _ _ z => z) (.int _)⟩
  · cases ez
theorem c_max2 (hc : X.calm = true) : C2S X (.builtin "max") dMax2 := by
  intro pins s σ H xs us Q I r h
  obtain ⟨x, y, rfl, F, d, e, z, hF, hx, hy, ez, q⟩ := h
  unfold dMax2 at ez
  split at ez
  · cases ez
    obtain rfl := hx.int
    obtain rfl := hy.int
    exact call_max2 hc pins s σ H _ us Q I r ⟨_, _, rfl, q _ H (fun _ _ z => z) (.int _)⟩
  · cases ez
end
end EV
namespace EV
open PySem PySem.Spec PyProof.Rows L2

/-! ### slices -/
abbrev OF := Rho → Option (Option Int × Rho)
def oNone : OF := fun ρ => some (none, ρ)
def oSome (f : EF) : OF := fun ρ => (f ρ).bind fun p => match p.1 with
  | .int i => some (some i, p.2)
  | _ => none
def cutD (xs : List PyData) (lo hi : Option Int) : List PyData := (xs.drop (HT.sIx xs.length 0 lo)).take (HT.sIx xs.length xs.length hi - HT.sIx xs.length 0 lo)
def dSl (d : PyData) (lo hi : Option Int) : Option PyData := match d with
  | .list ds => some (.list (cutD ds lo hi))
  | .tuple ds => some (.tuple (cutD ds lo hi))
  | .str z => if z.length ≤ lim then some (.str (cutS z lo hi)) else none
  | _ => none
def eSl (f : EF) (l h : OF) : EF := fun ρ => (f ρ).bind fun p => (l p.2).bind fun a => (h a.2).bind fun b => (dSl p.1 a.1 b.1).map fun z => (z, b.2)
def eSlV (i : Nat) (l h : OF) : EF := fun ρ => (rVar i ρ).bind fun _ => (l ρ).bind fun a => (h a.2).bind fun b => (rVar i b.2).bind fun p => (dSl p.1 a.1 b.1).map fun z => (z, b.2)
def OvR (P : Program) (w : World) (K : PySem.W.Frag) (t : TO) (f : OF) : Prop := ∀ (A : Fb) (σ : L2.St) (H : Hp) (ρ : Rho) (d : Option Int) (ρ' : Rho) (Q : Option Int → Hp → Prop), RS P w K A σ H ρ → f ρ = some (d, ρ') →
  (∀ H', RS P w K A σ H' ρ' → Pe σ H ρ H' ρ' → Q d H') → t σ H Q
def OV (X : Cx) (e : Option Expr) (f : OF) : Prop := ∃ t, PO X e t ∧ OvR X.prog X.w X.K t f
def rSlc (P : Program) (w : World) (K : PySem.W.Frag) : V → Option Int → Option Int → Hp → VK → Prop := fun x lo hi H Q => ∃ (F : Fb) (d z : PyData), (∀ a, F a → ∃ o, H a = some o) ∧ DenX P w K H F x d ∧ dSl d lo hi = some z ∧ ∀ v H', Ext H H' → Den P w K H' F v z → Q v H'
section
variable {P : Program} {w : World} {K : PySem.W.Frag} {te : TE} {tl th : TO} {f : EF} {l h : OF} {i : Nat}
theorem ovR_none : OvR P w K tNoPart oNone := fun A σ H ρ d ρ' Q R e k => by
  cases e
  exact k H R Pe.refl
theorem ovR_some (hf : EvR P w K te f) : OvR P w K (tPart te) (oSome f) := fun A σ H ρ d ρ' Q R e k => by
  unfold oSome at e
  obtain ⟨⟨d1, ρ1⟩, e1, e⟩ := Option.bind_eq_some_iff.mp e
  simp only at e
  split at e
  · cases e
    refine hf A σ H ρ _ _ _ R e1 fun v H1 R1 p1 n1 => ?_
    obtain rfl := n1.x.int
    exact ⟨_, rfl, k H1 R1 p1⟩
  · cases e
theorem evR_sl (hf : EvR P w K te f) (hl : OvR P w K tl l) (hh : OvR P w K th h) : EvR P w K (L2.tSl (rSlc P w K) te tl th) (eSl f l h) := by
  intro A σ H ρ d ρ' Q R e k
  unfold eSl at e
  obtain ⟨⟨d1, ρ1⟩, e1, e⟩ := Option.bind_eq_some_iff.mp e
  obtain ⟨⟨d2, ρ2⟩, e2, e⟩ := Option.bind_eq_some_iff.mp e
  obtain ⟨⟨d3, ρ3⟩, e3, e⟩ := Option.bind_eq_some_iff.mp e
  obtain ⟨z, e4, e⟩ := Option.map_eq_some_iff.mp e
  cases e
  refine hf A σ H ρ d1 ρ1 _ R e1 fun v1 H1 R1 p1 n1 => hl A σ H1 ρ1 d2 ρ2 _ R1 e2 fun H2 R2 p2 => hh A σ H2 ρ2 d3 ρ3 _ R2 e3 fun H3 R3 p3 => ?_
  exact ⟨FbS A σ ρ3, d1, _, R3.ftrk, (R1.den (p2.trans p3).stp n1).x, e4, fun v H' ex dn => k v H' (R3.ext ex) (((p1.trans p2).trans p3).trans (Pe.ext ex)) dn⟩
theorem evR_slV (hl : OvR P w K tl l) (hh : OvR P w K th h) : EvR P w K (L2.tSl (rSlc P w K) (tVar i) tl th) (eSlV i l h) := by
  intro A σ H ρ d ρ' Q R e k
  unfold eSlV at e
  obtain ⟨⟨d1, ρ1⟩, e1, e⟩ := Option.bind_eq_some_iff.mp e
  obtain ⟨⟨d2, ρ2⟩, e2, e⟩ := Option.bind_eq_some_iff.mp e
  obtain ⟨⟨d3, ρ3⟩, e3, e⟩ := Option.bind_eq_some_iff.mp e
  obtain ⟨⟨d4, ρ4⟩, e4, e⟩ := Option.bind_eq_some_iff.mp e
  obtain ⟨z, e5, e⟩ := Option.map_eq_some_iff.mp e
  cases e
  obtain ⟨_, v, hv, _⟩ := R.read e1
  refine ⟨v, hv, hl A σ H ρ d2 ρ2 _ R e2 fun H2 R2 p2 => hh A σ H2 ρ2 d3 ρ3 _ R2 e3 fun H3 R3 p3 => ?_⟩
  obtain ⟨rfl, v', hv', n1⟩ := R3.read e4
  rw [hv] at hv'
  cases hv'
  exact ⟨FbS A σ _, d4, _, R3.ftrk, n1, e5, fun v H' ex dn => k v H' (R3.ext ex) ((p2.trans p3).trans (Pe.ext ex)) dn⟩
theorem denAll_cut {H : Hp} {F : Fb} {vs : List V} {ds : List PyData} (t : DenAll P w K H F vs ds) (lo hi : Option Int) : DenAll P w K H F (cutV vs lo hi) (cutD ds lo hi) := by
  unfold cutV cutD
  rw [t.length]
  exact (t.drop _).take _
theorem cut_whole {ds : List PyData} {lo hi : Option Int} (h : HT.sIx ds.length 0 lo = 0 ∧ HT.sIx ds.length ds.length hi = ds.length) : cutD ds lo hi = ds := by
  unfold cutD
  rw [h.1, h.2, List.drop_zero, Nat.sub_zero, List.take_length]
end
section
variable {X : Cx} {e a b : Expr} {lo hi : Option Expr} {f : EF} {l h : OF} {i : Nat} {x : Str} {pos p2 npos : Pos}
theorem sl_all : L2.SlR X (rSlc X.prog X.w X.K) := by
  intro pins s σ H x v vl vu lo hi sl Q I rx hs pl pu hh
  obtain ⟨F, d, z, hF, hx, ez, q⟩ := hh
  unfold dSl at ez
  split at ez
  · cases ez
    obtain ⟨a, xs, rfl, hq, t⟩ := hx.sqL
    refine sl_list pins s σ H _ v vl vu lo hi sl Q I rx hs pl pu ⟨a, xs, rfl, hq, fun p hp => ?_⟩
    have ex := ext_new (o := .lst (cutV xs lo hi)) hp
    exact q _ _ ex (.lst (ndF hF hp) (.inl upd_same) ((denAll_cut t lo hi).ext ex))
  · cases ez
    obtain ⟨a, xs, e, hq, t⟩ := hx.sqT
    subst e
    refine sl_tupA pins s σ H _ v vl vu lo hi sl Q I rx hs pl pu ⟨a, xs, rfl, hq, fun hw => ?_, fun _ p hp => ?_⟩
    · rw [t.length] at hw
      rw [cut_whole hw] at q
      exact q _ H (fun _ _ z => z) (den_tup_of hx)
    · have ex := ext_new (o := .tup (cutV xs lo hi)) hp
      exact q _ _ ex (.tup (ndF hF hp) (.inl upd_same) ((denAll_cut t lo hi).ext ex))
  · split at ez
    · rename_i hl
      cases ez
      obtain rfl := hx.strv
      exact sl_str pins s σ H _ v vl vu lo hi sl Q I rx hs pl pu ⟨_, rfl, lim_line hl, q _ H (fun _ _ z => z) (.str _)⟩
    · cases ez
  · cases ez
theorem ov_none : OV X none oNone := ⟨_, po_none, ovR_none⟩
theorem ov_some (h : EV X e f) : OV X (some e) (oSome f) := let ⟨_, a1, a2⟩ := h; ⟨_, po_some a1, ovR_some a2⟩
theorem ev_sl (he : EV X e f) (hl : OV X lo l) (hh : OV X hi h) : EV X (.Subscript e (.Slice lo hi none p2) pos) (eSl f l h) := let ⟨_, a1, a2⟩ := he; let ⟨_, b1, b2⟩ := hl; let ⟨_, c1, c2⟩ := hh; ⟨_, pe_slice sl_all a1 b1 c1, evR_sl a2 b2 c2⟩
theorem ev_slV (i : Nat) (hl : OV X lo l) (hh : OV X hi h) (hN : X.N[i]? = some x := by rfl) (hv : Vis X.env.scope x := by first | exact Or.inl rfl | exact Or.inr (Or.inl rfl) | exact Or.inr (Or.inr rfl)) (hd : (x == ("__debug__" : Str)) = false := by decide)
    (hcd : (x == ("__classdict__" : Str)) = false := by decide) : EV X (.Subscript (.Name x npos) (.Slice lo hi none p2) pos) (eSlV i l h) := let ⟨_, b1, b2⟩ := hl; let ⟨_, c1, c2⟩ := hh; ⟨_, pe_slice sl_all (pe_var hN hv hd hcd) b1 c1, evR_slV b2 c2⟩
end
end EV
namespace EV
open PySem PySem.Spec PyProof.Rows L2

/-! ### mirrors, run by simp -/
section
variable {ρ : Rho} {f g h : EF} {c d : BF} {s t : SF} {i j : Nat} {o o' : PyData → PyData → Option PyData} {u : PyData → Option PyData} {l : LF} {nf ng : NF} {gf : GF} {gs : GFs}
@[simp] theorem eVar_ap : eVar i ρ = (match ρ[i]? with | some (.sh d) => some (d, ρ) | some (.ow d) => some (d, ρ.set i (.sh d)) | _ => none) := rfl
@[simp] theorem rVar_ap : rVar i ρ = (match ρ[i]? with | some (.sh d) => some (d, ρ) | some (.ow d) => some (d, ρ) | _ => none) := rfl
@[simp] theorem eC_ap {d : PyData} : eC d ρ = some (d, ρ) := rfl
@[simp] theorem eOp_ap : eOp o f g ρ = (f ρ).bind fun p => (g p.2).bind fun q => (o p.1 q.1).map fun z => (z, q.2) := rfl
@[simp] theorem eOpV_ap : eOpV o i g ρ = (rVar i ρ).bind fun _ => (g ρ).bind fun q => (rVar i q.2).bind fun p => (o p.1 q.1).map fun z => (z, q.2) := rfl
@[simp] theorem eUn_ap : eUn u f ρ = (f ρ).bind fun p => (u p.1).map fun z => (z, p.2) := rfl
@[simp] theorem bOf_ap : bOf f ρ = (f ρ).bind fun p => (match p.1 with | .bool b => some (b, p.2) | _ => none) := rfl
@[simp] theorem bAnd_ap : bAnd c d ρ = (c ρ).bind fun p => if p.1 = true then d p.2 else some (false, p.2) := rfl
@[simp] theorem bOr_ap : bOr c d ρ = (c ρ).bind fun p => if p.1 = true then some (true, p.2) else d p.2 := rfl
@[simp] theorem bNot_ap : bNot c ρ = (c ρ).map fun p => (!p.1, p.2) := rfl
@[simp] theorem eAnd_ap : eAnd f g ρ = (bOf f ρ).bind fun p => if p.1 = true then g p.2 else some (.bool false, p.2) := rfl
@[simp] theorem eOr_ap : eOr f g ρ = (bOf f ρ).bind fun p => if p.1 = true then some (.bool true, p.2) else g p.2 := rfl
@[simp] theorem eNot_ap : eNot f ρ = (bOf f ρ).map fun p => (.bool (!p.1), p.2) := rfl
@[simp] theorem eIf_ap : eIf c f g ρ = (c ρ).bind fun p => if p.1 = true then f p.2 else g p.2 := rfl
@[simp] theorem eChn_ap : eChn o o' f g h ρ = (f ρ).bind fun p => (g p.2).bind fun q => (o p.1 q.1).bind fun z => (match z with
  | .bool true => (h q.2).bind fun r => (o' q.1 r.1).map fun z => (z, r.2)
  | .bool false => some (.bool false, q.2)
  | _ => none) := rfl
@[simp] theorem aNil_ap : aNil ρ = some ([], ρ) := rfl
@[simp] theorem aCons_ap : aCons f l ρ = (f ρ).bind fun p => (l p.2).map fun q => (p.1 :: q.1, q.2) := rfl
@[simp] theorem eTup_ap : eTup l ρ = (l ρ).bind fun q => if q.1.length ≤ 10000 then some (.tuple q.1, q.2) else none := rfl
@[simp] theorem eLst_ap : eLst l ρ = (l ρ).bind fun q => if q.1.length ≤ 10000 then some (.list q.1, q.2) else none := rfl
@[simp] theorem nE_ap : nE f ρ = (f ρ).map fun p => (.sh p.1, p.2) := rfl
@[simp] theorem nN_ap : nN f ρ = (f ρ).map fun p => (.ow p.1, p.2) := rfl
@[simp] theorem sNx_ap : sNx ρ = some (.nx, ρ) := rfl
@[simp] theorem sBk_ap : sBk ρ = some (.bk, ρ) := rfl
@[simp] theorem sCt_ap : sCt ρ = some (.ct, ρ) := rfl
@[simp] theorem sSeq_ap : sSeq s t ρ = (s ρ).bind fun p => (match p.1 with | .nx => t p.2 | f => some (f, p.2)) := rfl
@[simp] theorem sExp_ap : sExp f ρ = (f ρ).map fun p => (.nx, p.2) := rfl
@[simp] theorem sRet_ap : sRet f ρ = (f ρ).map fun p => (.rt p.1, p.2) := rfl
@[simp] theorem sRetN_ap : sRetN ρ = some (.rt .none, ρ) := rfl
@[simp] theorem sIf_ap : sIf c s t ρ = (c ρ).bind fun p => if p.1 = true then s p.2 else t p.2 := rfl
@[simp] theorem sSet_ap : sSet i nf ρ = (nf ρ).map fun p => (.nx, p.2.set i p.1) := rfl
@[simp] theorem sPar_ap : sPar i j nf ng ρ = (nf ρ).bind fun p => (ng p.2).map fun q => (.nx, (q.2.set j q.1).set i p.1) := rfl
@[simp] theorem gN_ap {d : PyData} : gN i d ρ = some (ρ.set i (.sh d)) := rfl
@[simp] theorem sAsg_ap : sAsg f gf ρ = (f ρ).bind fun p => (gf p.1 p.2).map fun ρ' => (.nx, ρ') := rfl
@[simp] theorem sFor_ap : sFor l gf s ρ = (l ρ).bind fun p => forF gf s p.1 p.2 := rfl
@[simp] theorem sWhile_ap {n : Nat} : sWhile n c s ρ = whileF c s n ρ := rfl
@[simp] theorem eMut_ap : eMut o i f ρ = (rVar i ρ).bind fun p => if isL p.1 = true then (f ρ).bind fun q => (match q.2[i]? with
  | some (.ow c) => (o c q.1).map fun c' => (.none, q.2.set i (.ow c'))
  | _ => none) else none := rfl
@[simp] theorem eCall_ap {m : List PyData → Option PyData} : eCall m l ρ = (l ρ).bind fun p => (m p.1).map fun r => (r, p.2) := rfl
@[simp] theorem eI1_ap {m : PyData → Option (PyData × PyData)} : eI1 m i ρ = (match ρ[i]? with
  | some (.ow d) => (m d).map fun p => (p.1, ρ.set i (.ow p.2))
  | _ => none) := rfl
@[simp] theorem eI2_ap {m : PyData → PyData → Option (PyData × PyData)} : eI2 m i f ρ = (rVar i ρ).bind fun _ => (f ρ).bind fun q => (match q.2[i]? with
  | some (.ow d) => (m d q.1).map fun p => (p.1, q.2.set i (.ow p.2))
  | _ => none) := rfl
@[simp] theorem eSlV_ap {a b : OF} : eSlV i a b ρ = (rVar i ρ).bind fun _ => (a ρ).bind fun a => (b a.2).bind fun b => (rVar i b.2).bind fun p => (dSl p.1 a.1 b.1).map fun z => (z, b.2) := rfl
@[simp] theorem eSl_ap {a b : OF} : eSl f a b ρ = (f ρ).bind fun p => (a p.2).bind fun a => (b a.2).bind fun b => (dSl p.1 a.1 b.1).map fun z => (z, b.2) := rfl
@[simp] theorem oNone_ap : oNone ρ = some (none, ρ) := rfl
@[simp] theorem oSome_ap : oSome f ρ = (f ρ).bind fun p => (match p.1 with | .int i => some (some i, p.2) | _ => none) := rfl
@[simp] theorem wSeq_ap : wSeq f ρ = (f ρ).bind fun p => (elems p.1).map fun ds => (ds, p.2) := rfl
@[simp] theorem sAug_ap : sAug o i f ρ = (rVar i ρ).bind fun _ => (f ρ).bind fun q => (rVar i q.2).bind fun p => (o p.1 q.1).map fun z => (.nx, q.2.set i (.sh z)) := rfl
@[simp] theorem sAugS_ap : sAugS o i g f ρ = (rVar i ρ).bind fun _ => (g ρ).bind fun q => (rVar i q.2).bind fun c => (dGetD c.1 q.1).bind fun x => (f q.2).bind fun y => (match y.2[i]? with
  | some (.ow c') => (o x y.1).bind fun z => (dSet c' q.1 z).map fun c2 => (.nx, y.2.set i (.ow c2))
  | _ => none) := rfl
@[simp] theorem gS_ap {d : PyData} : gS i g d ρ = (rVar i ρ).bind fun _ => (g ρ).bind fun q => (match q.2[i]? with
  | some (.ow c) => (dSet c q.1 d).map fun c' => q.2.set i (.ow c')
  | _ => none) := rfl
@[simp] theorem gsNil_ap : gsNil [] ρ = some ρ := rfl
@[simp] theorem gsCons_ap {d : PyData} {ds : List PyData} : gsCons gf gs (d :: ds) ρ = (gf d ρ).bind (gs ds) := rfl
@[simp] theorem gT_ap {n : Nat} {ds : List PyData} : gT n gs (.tuple ds) ρ = if ds.length = n then gs ds ρ else none := rfl
theorem forF_nil : forF gf s [] ρ = some (.nx, ρ) := rfl
theorem forF_cons {d : PyData} {ds : List PyData} : forF gf s (d :: ds) ρ = (gf d ρ).bind fun ρ1 => (s ρ1).bind fun p => (match p.1 with
    | .nx => forF gf s ds p.2
    | .ct => forF gf s ds p.2
    | .bk => some (.nx, p.2)
    | .rt r => some (.rt r, p.2)) := rfl
/-- a loop that is never left -/
theorem forF_inv (Inv : Nat → Rho → Prop) : ∀ {xs : List PyData} {k : Nat} {ρ : Rho}, Inv k ρ → (∀ (i : Nat) (d : PyData) (ρ : Rho), xs[i]? = some d → Inv (k + i) ρ → ∃ ρ1 ρ2, gf d ρ = some ρ1 ∧ (s ρ1 = some (.nx, ρ2) ∨ s ρ1 = some (.ct, ρ2)) ∧ Inv (k + i + 1) ρ2) →
    ∃ ρ', forF gf s xs ρ = some (.nx, ρ') ∧ Inv (k + xs.length) ρ'
  | [], k, ρ, h0, _ => ⟨ρ, rfl, h0⟩
  | d :: ds, k, ρ, h0, st => by
    obtain ⟨ρ1, ρ2, e1, e2, h1⟩ := st 0 d ρ rfl h0
    have h1 : Inv (k + 1) ρ2 := h1
    obtain ⟨ρ', e3, h3⟩ := forF_inv Inv (xs := ds) h1 fun i d' ρ hd hi => by
      have := st (i + 1) d' ρ hd (by rw [show k + (i + 1) = k + 1 + i by omega]; exact hi)
      rw [show k + (i + 1) = k + 1 + i by omega] at this
      exact this
    refine ⟨ρ', ?_, by rw [List.length_cons, show k + (ds.length + 1) = k + 1 + ds.length by omega]; exact h3⟩
    rw [forF_cons, e1]
    simp only [Option.bind_some]
    rcases e2 with e2 | e2 <;> · rw [e2]; exact e3
end

/-! ### the draws -/
def kDraws : PyData := .str (Str.ofString "draws")
def kAt : PyData := .str (Str.ofString "at")
def iL (ds : List Int) : PyData := .list (ds.map .int)
def W (ds : List Int) (a : Int) : PyData := .dict [(kDraws, iL ds), (kAt, .int a)]
def InR (ds : List Int) : Prop := ∀ d ∈ ds, 0 ≤ d ∧ d < 997
theorem W_at {ds : List Int} {a : Int} : dGetD (W ds a) kAt = some (.int a) := rfl
theorem W_draws {ds : List Int} {a : Int} : dGetD (W ds a) kDraws = some (iL ds) := rfl
theorem W_ixat {ds : List Int} {a : Int} : dIx (W ds a) kAt = some (.int a) := rfl
theorem W_ixdraws {ds : List Int} {a : Int} : dIx (W ds a) kDraws = some (iL ds) := rfl
theorem W_set {ds : List Int} {a b : Int} : dSet (W ds a) kAt (.int b) = some (W ds b) := rfl
def B_next : SF := (sSeq (sAugS dAddI 0 (eC (.str (Str.ofString "at"))) (eC (.int 1))) (sSeq (sIf (bOf (eOp (dCmp cGt) (eOpV dIx 0 (eC (.str (Str.ofString "at")))) (eUn dLen (eOpV dIx 0 (eC (.str (Str.ofString "draws"))))))) (sRet (eC (.int 0))) sNx) (sRet (eOp dMod (eUn dInt (eOp dIx (eOpV dIx 0 (eC (.str (Str.ofString "draws")))) (eOp dSub (eOpV dIx 0 (eC (.str (Str.ofString "at")))) (eC (.int 1))))) (rVar 1)))))
def draw (ds : List Int) (a : Nat) : Int := (ds[a]?).getD 0
theorem draw_in {ds : List Int} (h : InR ds) (a : Nat) : 0 ≤ draw ds a ∧ draw ds a < 997 := by
  unfold draw
  by_cases hl : a < ds.length
  · rw [List.getElem?_eq_getElem hl]; exact h _ (List.getElem_mem hl)
  · rw [List.getElem?_eq_none (by omega)]; exact ⟨by decide, by decide⟩
theorem next_eq (ds : List Int) (a : Nat) (n : Int) (hn : 0 < n) : runI2 2 B_next (W ds a) (.int n) = some (.int ((draw ds a) % n), W ds ((a : Nat) + 1 : Nat)) := by
  have k1 : (PyData.str (Str.ofString "at")) = kAt := rfl
  have k2 : (PyData.str (Str.ofString "draws")) = kDraws := rfl
  unfold runI2 B_next
  rw [k1, k2]
  have hlen : dLen (iL ds) = some (.int ds.length) := by simp [dLen, iL]
  have st : (sAugS dAddI 0 (eC kAt) (eC (.int 1))) [.ow (W ds a), .sh (.int n)] = some (.nx, [.ow (W ds ((a : Int) + 1)), .sh (.int n)]) := by
    simp [W_at, dAddI, W_set]
  by_cases hl : a < ds.length
  · have c : ¬ ((ds.length : Int) < (a : Int) + 1) := by omega
    have gi : dIx (iL ds) (.int (a : Int)) = some (.int (draw ds a)) := by
      unfold dIx iL
      simp only
      rw [atI_nat (j := a) (v := .int (draw ds a))]
      rw [List.getElem?_map, List.getElem?_eq_getElem hl]
      unfold draw
      rw [List.getElem?_eq_getElem hl]
      rfl
    show (match sSeq _ _ [.ow (W ds a), .sh (.int n)] with | some (.rt r, ρ) => _ | _ => _) = _
    rw [sSeq_ap, st]
    simp [W_ixat, W_ixdraws, hlen, dCmp, cGt, c, dSub, gi, dInt, dMod, show n ≠ 0 by omega, Int.fmod_eq_emod_of_nonneg _ (show (0:Int) ≤ n by omega)]
  · have c : ((ds.length : Int) < (a : Int) + 1) := by omega
    show (match sSeq _ _ [.ow (W ds a), .sh (.int n)] with | some (.rt r, ρ) => _ | _ => _) = _
    rw [sSeq_ap, st]
    have : draw ds a = 0 := by unfold draw; rw [List.getElem?_eq_none (by omega)]; rfl
    simp [W_ixat, W_ixdraws, hlen, dCmp, cGt, c, this]

def B_draws : SF := (sSeq (sSet 2 (nN (eLst aNil))) (sSeq (sSet 3 (nE (eC (.int 7)))) (sSeq (sFor (wRng (aCons (eUn dLen (rVar 0)) aNil)) (gN 4) (sSeq (sSet 5 (nE (eUn dAbs (eUn dInt (eOpV dIx 0 (rVar 4)))))) (sSeq (sSet 3 (nE (eOp dMod (eUn dInt (eOp dAdd (eOp dAdd (eOpV dMul 3 (eC (.int 48271))) (eOpV dMod 5 (eC (.int 1000003)))) (rVar 4))) (eC (.int 65537))))) (sSeq (sSet 6 (nE (eC (.int 0)))) (sSeq (sIf (bOf (eOpV (dCmp cGe) 5 (eOp dPow (eC (.int 10)) (eC (.int 18))))) (sSet 6 (nE (eVar 5))) (sSeq (sExp (eMut dApp 2 (eOp dMod (eUn dInt (rVar 5)) (eC (.int 997))))) (sExp (eMut dApp 2 (eOp dMod (eOp dMod (eUn dInt (eOp dAdd (eOpV dMul 3 (eC (.int 69621))) (eC (.int 5)))) (eC (.int 65521))) (eC (.int 997))))))) (sFor (wRng (aCons (eC (.int 60)) aNil)) (gN 7) (sIf (bOf (eOpV (dCmp cGt) 6 (eC (.int 0)))) (sSeq (sExp (eMut dApp 2 (eOp dMod (eUn dInt (rVar 6)) (eC (.int 997))))) (sSet 6 (nE (eOpV dDiv 6 (eC (.int 997)))))) sNx))))))) (sSeq (sFor (wRng (aCons (eVar 1) aNil)) (gN 4) (sSeq (sSet 3 (nE (eOp dMod (eUn dInt (eOp dAdd (eOp dAdd (eOpV dMul 3 (eC (.int 16807))) (rVar 4)) (eC (.int 1)))) (eC (.int 65537))))) (sExp (eMut dApp 2 (eOp dMod (eUn dInt (rVar 3)) (eC (.int 997))))))) (sRet (eSlV 2 oNone (oSome (eVar 1))))))))
theorem inR_app {ds : List Int} (h : InR ds) {x : Int} (h0 : 0 ≤ x) (h1 : x < 997) : InR (ds ++ [x]) := fun d hd => by
  rw [List.mem_append, List.mem_singleton] at hd
  rcases hd with hd | rfl
  · exact h d hd
  · exact ⟨h0, h1⟩
theorem iL_app {ds : List Int} {x : Int} (hl : ds.length < 100000) : dApp (iL ds) (.int x) = some (iL (ds ++ [x])) := by
  unfold dApp iL
  simp [hl]
theorem isL_iL {ds : List Int} : isL (iL ds) = true := rfl
theorem mod997 (x : Int) : 0 ≤ Int.fmod x 997 ∧ Int.fmod x 997 < 997 := by
  rw [Int.fmod_eq_emod_of_nonneg _ (by decide)]
  exact ⟨Int.emod_nonneg _ (by decide), Int.emod_lt_of_pos _ (by decide)⟩
theorem modM (x : Int) : 0 ≤ Int.fmod x 65537 ∧ Int.fmod x 65537 < 65537 := by
  rw [Int.fmod_eq_emod_of_nonneg _ (by decide)]
  exact ⟨Int.emod_nonneg _ (by decide), Int.emod_lt_of_pos _ (by decide)⟩
theorem mulOk_r (i j : Int) (h : -(2 ^ 64) < j ∧ j < 2 ^ 64) : mulOk i j = true := by
  unfold mulOk
  rw [decide_eq_true h, Bool.or_true]
theorem dMul_r {i j : Int} (h : -(2 ^ 64) < j ∧ j < 2 ^ 64) : dMul (.int i) (.int j) = some (.int (i * j)) := by
  unfold dMul
  simp only [mulOk_r i j h, if_true]
theorem dMod_n {i j : Int} (h : j ≠ 0) : dMod (.int i) (.int j) = some (.int (i.fmod j)) := by
  unfold dMod
  simp only [if_pos h]
theorem dAdd_i {i j : Int} : dAdd (.int i) (.int j) = some (.int (i + j)) := rfl
theorem dInt_i {i : Int} : dInt (.int i) = some (.int i) := rfl
theorem dAbs_i {i : Int} : dAbs (.int i) = some (.int (if i < 0 then -i else i)) := rfl
theorem dDiv_n {i j : Int} (h : j ≠ 0 ∧ j.natAbs < 1073741824) : dDiv (.int i) (.int j) = some (.int (i.fdiv j)) := by
  unfold dDiv
  simp only [if_pos h]
theorem dPow_18 : dPow (.int 10) (.int 18) = some (.int 1000000000000000000) := by
  have : powOk 10 18 = true := by decide
  unfold dPow
  simp only [this, if_true]
  rfl
theorem dCmp_i {c : Int → Int → Bool} {i j : Int} : dCmp c (.int i) (.int j) = some (.bool (c i j)) := rfl
/-- the state of the draws -/
structure DrS (ns : List Int) (B : Nat) (ρ : Rho) : Prop where
  ex : ∃ (ds : List Int) (m : Int) (k c r t : Slot), ρ = [.sh (iL ns), .sh (.int 200), .ow (iL ds), .sh (.int m), k, c, r, t] ∧ InR ds ∧ ds.length ≤ B
structure DrR (ns : List Int) (B : Nat) (ρ : Rho) : Prop where
  ex : ∃ (ds : List Int) (m : Int) (k c : Slot) (r : Int) (t : Slot), ρ = [.sh (iL ns), .sh (.int 200), .ow (iL ds), .sh (.int m), k, c, .sh (.int r), t] ∧ InR ds ∧ ds.length ≤ B
theorem rng_get {i : Int} {n : Nat} {c : Int} {j : Nat} {d : PyData} (h : (rng i n c)[j]? = some d) : d = .int (i + (j : Int) * c) ∧ j < n := by
  unfold rng at h
  rw [List.getElem?_map] at h
  obtain ⟨m, hm, rfl⟩ := Option.map_eq_some_iff.mp h
  obtain ⟨h1, h2⟩ := List.getElem?_eq_some_iff.mp hm
  rw [List.getElem_range] at h2
  subst h2
  exact ⟨rfl, by simpa using h1⟩
theorem rng_len {i : Int} {n : Nat} {c : Int} : (rng i n c).length = n := by simp [rng]
theorem wRng1_ap {f : EF} {ρ ρ' : Rho} {j : Int} (h : f ρ = some (.int j, ρ')) (hs : -(2 ^ 62) ≤ j ∧ j < 2 ^ 62) : wRng (aCons f aNil) ρ = some (rng 0 j.toNat 1, ρ') := by
  unfold wRng
  rw [aCons_ap, h]
  simp only [Option.bind_some, aNil_ap, Option.map_some, small62, decide_eq_true hs, if_true]
def bIn : SF := sIf (bOf (eOpV (dCmp cGt) 6 (eC (.int 0)))) (sSeq (sExp (eMut dApp 2 (eOp dMod (eUn dInt (rVar 6)) (eC (.int 997))))) (sSet 6 (nE (eOpV dDiv 6 (eC (.int 997)))))) sNx
def fIn : SF := sFor (wRng (aCons (eC (.int 60)) aNil)) (gN 7) bIn
/-- the turns of the inner loop -/
theorem draws_inner (ns : List Int) {B : Nat} (hB : B + 60 ≤ 90000) {ρ : Rho} (h : DrR ns B ρ) : ∃ ρ', fIn ρ = some (.nx, ρ') ∧ DrR ns (B + 60) ρ' := by
  unfold fIn
  rw [sFor_ap, wRng1_ap (f := eC (.int 60)) (j := 60) eC_ap (by decide)]
  simp only [Option.bind_some]
  obtain ⟨ρ', e, hr⟩ := forF_inv (gf := gN 7) (s := bIn) (fun i ρ => DrR ns (B + i) ρ) (xs := rng 0 (60 : Int).toNat 1) (k := 0) (ρ := ρ) h fun i d ρ hd hi => by
    obtain ⟨rfl, hj⟩ := rng_get hd
    obtain ⟨ds, m, k, c, r, t, rfl, hi, hl⟩ := hi.ex
    have hl60 : ds.length < 100000 := by
      have : i < 60 := hj
      omega
    by_cases hr : 0 < r
    · refine ⟨_, [.sh (iL ns), .sh (.int 200), .ow (iL (ds ++ [r.fmod 997])), .sh (.int m), k, c, .sh (.int (r.fdiv 997)), .sh (.int (0 + (i : Int) * 1))], rfl, .inl ?_, ⟨_, m, k, c, _, _, rfl, inR_app hi (mod997 r).1 (mod997 r).2, ?_⟩⟩
      · unfold bIn
        simp [dCmp_i, cGt, hr, dInt_i, dMod_n, isL_iL, iL_app hl60, dDiv_n]
      · rw [List.length_append]; simp; omega
    · refine ⟨_, [.sh (iL ns), .sh (.int 200), .ow (iL ds), .sh (.int m), k, c, .sh (.int r), .sh (.int (0 + (i : Int) * 1))], rfl, .inl ?_, ⟨_, m, k, c, _, _, rfl, hi, by omega⟩⟩
      unfold bIn
      simp [dCmp_i, cGt, hr]
  refine ⟨ρ', e, ?_⟩
  rw [rng_len] at hr
  simpa using hr
def bMid : SF := (sSeq (sSet 5 (nE (eUn dAbs (eUn dInt (eOpV dIx 0 (rVar 4)))))) (sSeq (sSet 3 (nE (eOp dMod (eUn dInt (eOp dAdd (eOp dAdd (eOpV dMul 3 (eC (.int 48271))) (eOpV dMod 5 (eC (.int 1000003)))) (rVar 4))) (eC (.int 65537))))) (sSeq (sSet 6 (nE (eC (.int 0)))) (sSeq (sIf (bOf (eOpV (dCmp cGe) 5 (eOp dPow (eC (.int 10)) (eC (.int 18))))) (sSet 6 (nE (eVar 5))) (sSeq (sExp (eMut dApp 2 (eOp dMod (eUn dInt (rVar 5)) (eC (.int 997))))) (sExp (eMut dApp 2 (eOp dMod (eOp dMod (eUn dInt (eOp dAdd (eOpV dMul 3 (eC (.int 69621))) (eC (.int 5)))) (eC (.int 65521))) (eC (.int 997))))))) fIn))))
theorem iL_ix {ns : List Int} {i : Nat} {x : Int} (h : ns[i]? = some x) : dIx (iL ns) (.int (i : Int)) = some (.int x) := by
  unfold dIx iL
  simp only
  rw [atI_nat (j := i) (v := .int x)]
  rw [List.getElem?_map, h]
  rfl
theorem draws_mid (ns : List Int) {B : Nat} (hB : B + 62 ≤ 90000) {ρ : Rho} {i : Nat} (hi : i < ns.length) (h : DrS ns B ρ) : ∃ ρ', bMid (ρ.set 4 (.sh (.int (0 + (i : Int) * 1)))) = some (.nx, ρ') ∧ DrS ns (B + 62) ρ' := by
  obtain ⟨ds, m, k, c, r, t, rfl, hin, hl⟩ := h.ex
  have hl60 : ds.length < 100000 := by omega
  have e0 : (0 + (i : Int) * 1) = (i : Int) := by omega
  rw [e0]
  obtain ⟨x, hx⟩ : ∃ x, ns[i]? = some x := ⟨_, List.getElem?_eq_getElem hi⟩
  have gx := iL_ix hx
  have big : dMul (.int m) (.int 48271) = some (.int (m * 48271)) := dMul_r (by decide)
  have big2 : ∀ z : Int, dMul (.int z) (.int 69621) = some (.int (z * 69621)) := fun z => dMul_r (by decide)
  have fin : ∀ {ρ1 : Rho}, DrR ns (B + 2) ρ1 → ∃ ρ', fIn ρ1 = some (.nx, ρ') ∧ DrS ns (B + 62) ρ' := fun h1 => by
    obtain ⟨ρ', e, hr⟩ := draws_inner ns (B := B + 2) (by omega) h1
    obtain ⟨ds, m, k, c, r, t, h2, h3, h4⟩ := hr.ex
    exact ⟨ρ', e, ⟨ds, m, k, c, _, t, h2, h3, by omega⟩⟩
  have st : ∃ ρ1, bMid ([.sh (iL ns), .sh (.int 200), .ow (iL ds), .sh (.int m), k, c, r, t].set 4 (.sh (.int (i : Int)))) = fIn ρ1 ∧ DrR ns (B + 2) ρ1 := by
    unfold bMid
    generalize hF : fIn = FF
    by_cases hc : (1000000000000000000 : Int) ≤ (if x < 0 then -x else x)
    · refine ⟨[.sh (iL ns), .sh (.int 200), .ow (iL ds), .sh (.int ((m * 48271 + (if x < 0 then -x else x).fmod 1000003 + (i : Int)).fmod 65537)), .sh (.int (i : Int)), .sh (.int (if x < 0 then -x else x)), .sh (.int (if x < 0 then -x else x)), t], ?_, ⟨ds, _, _, _, _, _, rfl, hin, by omega⟩⟩
      simp [gx, dInt_i, dAbs_i, big, dMod_n, dAdd_i, dPow_18, dCmp_i, cGe, hc]
    · refine ⟨[.sh (iL ns), .sh (.int 200), .ow (iL ((ds ++ [(if x < 0 then -x else x).fmod 997]) ++ [(((((m * 48271 + (if x < 0 then -x else x).fmod 1000003 + (i : Int)).fmod 65537) * 69621 + 5).fmod 65521).fmod 997)])), .sh (.int ((m * 48271 + (if x < 0 then -x else x).fmod 1000003 + (i : Int)).fmod 65537)), .sh (.int (i : Int)), .sh (.int (if x < 0 then -x else x)), .sh (.int 0), t], ?_,
        ⟨_, _, _, _, _, _, rfl, inR_app (inR_app hin (mod997 _).1 (mod997 _).2) (mod997 _).1 (mod997 _).2, by simp; omega⟩⟩
      have hl61 : ∀ z : Int, (ds ++ [z]).length < 100000 := fun z => by rw [List.length_append]; simp; omega
      simp [gx, dInt_i, dAbs_i, big, big2, dMod_n, dAdd_i, dPow_18, dCmp_i, cGe, hc, isL_iL, iL_app hl60, iL_app (hl61 _)]
  obtain ⟨ρ1, e, h1⟩ := st
  rw [e]
  exact fin h1
def bEnd : SF := (sSeq (sSet 3 (nE (eOp dMod (eUn dInt (eOp dAdd (eOp dAdd (eOpV dMul 3 (eC (.int 16807))) (rVar 4)) (eC (.int 1)))) (eC (.int 65537))))) (sExp (eMut dApp 2 (eOp dMod (eUn dInt (rVar 3)) (eC (.int 997))))))
/-- at least n draws -/
structure DrE (ns : List Int) (B n : Nat) (ρ : Rho) : Prop where
  ex : ∃ (ds : List Int) (m : Int) (k c r t : Slot), ρ = [.sh (iL ns), .sh (.int 200), .ow (iL ds), .sh (.int m), k, c, r, t] ∧ InR ds ∧ ds.length ≤ B + n ∧ n ≤ ds.length
theorem draws_end (ns : List Int) {ρ1 : Rho} (h1 : DrE ns 4000 0 ρ1) (n : Nat) (hn : n ≤ 200) : ∃ ρ2, forF (gN 4) bEnd (rng 0 n 1) ρ1 = some (.nx, ρ2) ∧ DrE ns 4000 n ρ2 := by
  obtain ⟨ρ2, e2, h2⟩ := forF_inv (gf := gN 4) (s := bEnd) (fun i ρ => DrE ns 4000 i ρ) (xs := rng 0 n 1) (k := 0) (ρ := ρ1) h1 fun i d ρ hd hi => by
    obtain ⟨rfl, hj⟩ := rng_get hd
    obtain ⟨ds, m, k, c, r, t, rfl, h2, h3, h4⟩ := hi.ex
    have hl60 : ds.length < 100000 := by omega
    have big : dMul (.int m) (.int 16807) = some (.int (m * 16807)) := dMul_r (by decide)
    refine ⟨_, [.sh (iL ns), .sh (.int 200), .ow (iL (ds ++ [((m * 16807 + (0 + (i : Int) * 1) + 1).fmod 65537).fmod 997])), .sh (.int ((m * 16807 + (0 + (i : Int) * 1) + 1).fmod 65537)), .sh (.int (0 + (i : Int) * 1)), c, r, t], rfl, .inl ?_, ⟨_, _, _, _, _, _, rfl, inR_app h2 (mod997 _).1 (mod997 _).2, by simp; omega, by simp; omega⟩⟩
    unfold bEnd
    simp [dInt_i, big, dMod_n, dAdd_i, isL_iL, iL_app hl60]
  rw [rng_len, Nat.zero_add] at h2
  exact ⟨ρ2, e2, h2⟩
theorem cut200 (ds : List Int) (n : Nat) (h : n ≤ ds.length) : dSl (iL ds) none (some (n : Int)) = some (iL (ds.take n)) := by
  unfold dSl iL
  have hcut : cutD (ds.map PyData.int) none (some (n : Int)) = (ds.take n).map .int := by
    unfold cutD
    rw [HT.sIx_none, List.length_map, HT.sIx_nat, List.drop_zero, Nat.sub_zero, List.map_take, Nat.min_eq_left h]
  simp only [hcut]
theorem draws_first (ns : List Int) (hn : ns.length ≤ 63) : ∃ ρ1, forF (gN 4) bMid (rng 0 ns.length 1) [.sh (iL ns), .sh (.int 200), .ow (iL []), .sh (.int 7), .un, .un, .un, .un] = some (.nx, ρ1) ∧ DrE ns 4000 0 ρ1 := by
  have h0 : DrS ns 0 [.sh (iL ns), .sh (.int 200), .ow (iL []), .sh (.int 7), .un, .un, .un, .un] := ⟨[], 7, _, _, _, _, rfl, (fun d hd => by cases hd), Nat.le_refl _⟩
  obtain ⟨ρ1, e1, h1⟩ := forF_inv (gf := gN 4) (s := bMid) (fun i ρ => DrS ns (62 * i) ρ) (xs := rng 0 ns.length 1) (k := 0) (ρ := [.sh (iL ns), .sh (.int 200), .ow (iL []), .sh (.int 7), .un, .un, .un, .un]) h0 fun i d ρ hd hi => by
    obtain ⟨rfl, hj⟩ := rng_get hd
    obtain ⟨ρ', e, h⟩ := draws_mid ns (i := i) (by omega) hj hi
    exact ⟨_, ρ', rfl, .inl e, by rw [show 62 * (0 + i + 1) = 62 * (0 + i) + 62 by omega]; exact h⟩
  rw [rng_len] at h1
  refine ⟨ρ1, e1, ?_⟩
  obtain ⟨ds, m, k, c, r, t, h1, h2, h3⟩ := h1.ex
  exact ⟨ds, m, k, c, r, t, h1, h2, by omega, Nat.zero_le _⟩
theorem sSeq_nx {s t : SF} {ρ ρ' : Rho} (h : s ρ = some (.nx, ρ')) : sSeq s t ρ = t ρ' := by
  rw [sSeq_ap, h]
  rfl
theorem sWhile_of {n : Nat} {c : BF} {s : SF} {ρ : Rho} {r : Option (Fl × Rho)} (h : whileF c s n ρ = r) : sWhile n c s ρ = r := h
theorem sFor_of {l : LF} {g : GF} {s : SF} {ρ ρ' : Rho} {xs : List PyData} (h : l ρ = some (xs, ρ')) : sFor l g s ρ = forF g s xs ρ' := by
  rw [sFor_ap, h]
  rfl
theorem draws_ok (ns : List Int) (hn : ns.length ≤ 63) : ∃ ds : List Int, ds.length = 200 ∧ InR ds ∧ runP 2 8 B_draws [iL ns, .int 200] = some (iL ds) := by
  have hlen : dLen (iL ns) = some (.int ns.length) := by simp [dLen, iL]
  obtain ⟨ρ1, e1, h1⟩ := draws_first ns hn
  obtain ⟨ρ2, e2, h2⟩ := draws_end ns h1 200 (Nat.le_refl _)
  obtain ⟨ds, m, k, c, r, t, rfl, h3, h4, h5⟩ := h2.ex
  refine ⟨ds.take 200, by rw [List.length_take]; omega, fun d hd => h3 d (List.mem_of_mem_take hd), ?_⟩
  have s1 : wRng (aCons (eUn dLen (rVar 0)) aNil) [.sh (iL ns), .sh (.int 200), .ow (iL []), .sh (.int 7), .un, .un, .un, .un] = some (rng 0 ns.length 1, [.sh (iL ns), .sh (.int 200), .ow (iL []), .sh (.int 7), .un, .un, .un, .un]) :=
    wRng1_ap (j := (ns.length : Int)) (by simp [hlen]) ⟨by omega, by omega⟩
  have g1 : ρ1[1]? = some (.sh (.int 200)) := by
    obtain ⟨ds, m, k, c, r, t, rfl, _⟩ := h1.ex
    rfl
  have s2 : wRng (aCons (eVar 1) aNil) ρ1 = some (rng 0 200 1, ρ1) := wRng1_ap (j := ((200 : Nat) : Int)) (by rw [eVar_ap, g1]; rfl) (by decide)
  have hsl : dSl (iL ds) none (some 200) = some (iL (ds.take 200)) := cut200 ds 200 h5
  have first : (sSet 2 (nN (eLst aNil))) [.sh (iL ns), .sh (.int 200), .un, .un, .un, .un, .un, .un] = some (.nx, [.sh (iL ns), .sh (.int 200), .ow (iL []), .un, .un, .un, .un, .un]) := rfl
  have second : (sSet 3 (nE (eC (.int 7)))) [.sh (iL ns), .sh (.int 200), .ow (iL []), .un, .un, .un, .un, .un] = some (.nx, [.sh (iL ns), .sh (.int 200), .ow (iL []), .sh (.int 7), .un, .un, .un, .un]) := rfl
  have last : sRet (eSlV 2 oNone (oSome (eVar 1))) [.sh (iL ns), .sh (.int 200), .ow (iL ds), .sh (.int m), k, c, r, t] = some (.rt (iL (ds.take 200)), [.sh (iL ns), .sh (.int 200), .ow (iL ds), .sh (.int m), k, c, r, t]) := by
    simp [hsl]
  have all : B_draws [.sh (iL ns), .sh (.int 200), .un, .un, .un, .un, .un, .un] = some (.rt (iL (ds.take 200)), [.sh (iL ns), .sh (.int 200), .ow (iL ds), .sh (.int m), k, c, r, t]) := by
    refine (sSeq_nx first).trans ((sSeq_nx second).trans ((sSeq_nx ((sFor_of s1).trans e1)).trans ((sSeq_nx ((sFor_of s2).trans e2)).trans last)))
  unfold runP
  rw [show rho0 8 [iL ns, .int 200] = [.sh (iL ns), .sh (.int 200), .un, .un, .un, .un, .un, .un] from rfl, all]
  rfl

/-! ### the law -/
def B_law (D : List PyData → Option PyData) (h : PyData → Option (PyData × PyData)) : SF := (sSeq (sSet 1 (nN (eDict (pCons (eC (.str (Str.ofString "draws"))) (eCall D (aCons (eVar 0) (aCons (eC (.int 200)) aNil))) (pCons (eC (.str (Str.ofString "at"))) (eC (.int 0)) pNil))))) (sSeq (sFor (wRng (aCons (eC (.int 4)) aNil)) (gN 2) (sIf (bNot (bOf (eI1 h 1))) (sRet (eC (.bool false))) sNx)) (sRet (eC (.bool true)))))
/-- the draws of a law: 200 ints below 997 -/
def HoldsOk (h : PyData → Option (PyData × PyData)) : Prop := ∀ (ds : List Int) (a : Nat), InR ds → ds.length = 200 → ∃ a' : Nat, h (W ds a) = some (.bool true, W ds a')
theorem law_of' {D : List PyData → Option PyData} {h : PyData → Option (PyData × PyData)} (hh : HoldsOk h) (ns ds : List Int) (hl : ds.length = 200) (hr : InR ds) (e : D [iL ns, .int 200] = some (iL ds)) : runP 1 3 (B_law D h) [iL ns] = some (.bool true) := by
  have r0 : rho0 3 [iL ns] = [.sh (iL ns), .un, .un] := rfl
  have s1 : (sSet 1 (nN (eDict (pCons (eC (.str (Str.ofString "draws"))) (eCall D (aCons (eVar 0) (aCons (eC (.int 200)) aNil))) (pCons (eC (.str (Str.ofString "at"))) (eC (.int 0)) pNil))))) [.sh (iL ns), .un, .un] = some (.nx, [.sh (iL ns), .ow (W ds 0), .un]) := by
    have : eCall D (aCons (eVar 0) (aCons (eC (.int 200)) aNil)) [.sh (iL ns), .un, .un] = some (iL ds, [.sh (iL ns), .un, .un]) := by
      simp [e]
    rw [sSet_ap, nN_ap]
    unfold eDict pCons
    rw [eC_ap]
    simp only [Option.bind_some]
    rw [this]
    rfl
  obtain ⟨ρ', e2, h2⟩ := forF_inv (gf := gN 2) (s := sIf (bNot (bOf (eI1 h 1))) (sRet (eC (.bool false))) sNx) (fun _ ρ => ∃ (a : Nat) (t : Slot), ρ = [.sh (iL ns), .ow (W ds a), t]) (xs := rng 0 (4 : Int).toNat 1) (k := 0) (ρ := [.sh (iL ns), .ow (W ds (0 : Nat)), .un]) ⟨0, _, rfl⟩ fun i d ρ hd hi => by
    obtain ⟨a, t, rfl⟩ := hi
    obtain ⟨a', e3⟩ := hh ds a hr hl
    refine ⟨_, [.sh (iL ns), .ow (W ds a'), .sh d], rfl, .inl ?_, a', _, rfl⟩
    simp [e3]
  have e2 : forF (gN 2) (sIf (bNot (bOf (eI1 h 1))) (sRet (eC (.bool false))) sNx) (rng 0 (4 : Int).toNat 1) [.sh (iL ns), .ow (W ds 0), .un] = some (.nx, ρ') := e2
  unfold runP
  rw [r0]
  unfold B_law
  rw [sSeq_ap, s1]
  simp only [Option.bind_some]
  rw [sSeq_ap, sFor_ap, wRng1_ap (f := eC (.int 4)) (j := 4) eC_ap (by decide)]
  simp only [Option.bind_some]
  rw [e2]
  rfl
theorem law_of {h : PyData → Option (PyData × PyData)} (hh : HoldsOk h) (ns : List Int) (hn : ns.length ≤ 63) : runP 1 3 (B_law (runP 2 8 B_draws) h) [iL ns] = some (.bool true) :=
  let ⟨ds, hl, hr, e⟩ := draws_ok ns hn
  law_of' hh ns ds hl hr e
theorem law_sp {w : World} {P : Program} {K : PySem.W.Frag} {H : Hp} {a : Addr} {ns : List Int} {m : List PyData → Option PyData} (hS : SqL K H a (ns.map V.int)) (hm : m [iL ns] = some (.bool true)) : spP P w K 1 m [.ref a] H (fun v _ => v = .bl true) fun _ _ _ => False := by
  have all : DenAll P w K H (fun _ => False) (ns.map V.int) (ns.map PyData.int) := by
    clear hS hm
    induction ns with
    | nil => exact .nil
    | cons x xs ih => exact .cons (.int x) ih
  refine ⟨rfl, fun _ => False, [iL ns], .bool true, (fun _ z => z.elim), .cons ?_ .nil, hm, fun v H' _ dn => ?_⟩
  · rcases hS with r | k
    · exact .lst (fun z => z) r all
    · exact .klst k all
  · cases dn; rfl
end EV
namespace EV
open PySem PySem.Spec PyProof.Rows L2

/-! ### the canonical readings: one for all contexts -/
section
variable (P : Program) (w : World) (K : PySem.W.Frag)
def canE (f : EF) : TE := fun σ H Q => ∃ (A : Fb) (ρ : Rho) (d : PyData) (ρ' : Rho), RS P w K A σ H ρ ∧ f ρ = some (d, ρ') ∧ ∀ v H', RS P w K A σ H' ρ' → Pe σ H ρ H' ρ' → Den P w K H' (FbS A σ ρ') v d → Q v H'
def canB (f : BF) : TT := fun σ H Q => ∃ (A : Fb) (ρ : Rho) (d : Bool) (ρ' : Rho), RS P w K A σ H ρ ∧ f ρ = some (d, ρ') ∧ ∀ H', RS P w K A σ H' ρ' → Pe σ H ρ H' ρ' → Q d H'
def canG (J : List Nat) (f : GF) : TG := fun v σ H Q => ∃ (A : Fb) (ρ : Rho) (d : PyData) (ρ' : Rho), RS P w K A σ H ρ ∧ Den P w K H (FbS A σ ρ) v d ∧ f d ρ = some ρ' ∧ ∀ σ' H', RS P w K A σ' H' ρ' → Stp (Rt σ ρ) (Rt σ' ρ') H H' → Agr J σ σ' → Q σ' H'
def canI (f : LF) : TI := fun σ H R => ∃ (A : Fb) (ρ : Rho) (ds : List PyData) (ρ' : Rho), RS P w K A σ H ρ ∧ f ρ = some (ds, ρ') ∧ ∀ I H', RS P w K A σ H' ρ' → Pe σ H ρ H' ρ' → Wk P w K I ds H' (FbS A σ ρ') → R I H'
end
section
variable {X : Cx} {e tg : Expr} {f : EF} {b : BF} {g : GF} {l : LF} {J : List Nat}
theorem canE_pe (h : EV X e f) : PE X e (canE X.prog X.w X.K f) := let ⟨t, h1, h2⟩ := h; ⟨fun pins s σ H Q I ⟨A, ρ, d, ρ', R, e, k⟩ => h1.run pins s σ H Q I (h2 A σ H ρ d ρ' Q R e k)⟩
theorem canB_pt (h : TV X e b) : PT X e (canB X.prog X.w X.K b) := let ⟨t, h1, h2⟩ := h; ⟨fun pins s σ H Q I ⟨A, ρ, d, ρ', R, e, k⟩ => h1.run pins s σ H Q I (h2 A σ H ρ d ρ' Q R e k)⟩
theorem canG_pg (h : GV X J e g) : PG X e (canG X.prog X.w X.K J g) := let ⟨t, h1, h2⟩ := h; ⟨fun pins s σ H v u Q I r ⟨A, ρ, d, ρ', R, dn, e, k⟩ => h1.run pins s σ H v u Q I r (h2 A σ H ρ v d ρ' Q R dn e k)⟩
theorem canI_pi (h : IV X tg e l) : PI X tg e (canI X.prog X.w X.K l) := let ⟨t, h1, h2⟩ := h; ⟨fun pins s σ H R I ⟨A, ρ, d, ρ', RR, e, k⟩ => h1.run pins s σ H R I (h2 A σ H ρ d ρ' R RR e k)⟩
end
section
variable {P : Program} {w : World} {K : PySem.W.Frag} {f : EF} {b : BF} {g : GF} {l : LF} {J : List Nat}
theorem canE_r : EvR P w K (canE P w K f) f := fun A σ H ρ d ρ' Q R e k => ⟨A, ρ, d, ρ', R, e, k⟩
theorem canB_r : TvR P w K (canB P w K b) b := fun A σ H ρ d ρ' Q R e k => ⟨A, ρ, d, ρ', R, e, k⟩
theorem canG_r : GvR P w K J (canG P w K J g) g := fun A σ H ρ v d ρ' Q R dn e k => ⟨A, ρ, d, ρ', R, dn, e, k⟩
theorem canI_r : IvR P w K (canI P w K l) l := fun A σ H ρ d ρ' R RR e k => ⟨A, ρ, d, ρ', RR, e, k⟩
end

/-! ### comprehensions: the mirror -/
def wipeR (ρ : Rho) : List Nat → Rho
  | [] => ρ
  | v :: vs => (wipeR ρ vs).set v .un
def unw (ρ0 ρ : Rho) : List Nat → Rho
  | [] => ρ
  | v :: vs => match ρ0[v]? with
    | some s => (unw ρ0 ρ vs).set v s
    | none => unw ρ0 ρ vs
def noOwn (vs : List Nat) (ρ : Rho) : Bool := vs.all fun v => match ρ[v]? with
  | some (.ow _) => false
  | _ => true
/-- as many slots, owned none but what was -/
def okTo : Rho → Rho → Bool
  | [], [] => true
  | .ow _ :: as, .ow _ :: bs => okTo as bs
  | .ow _ :: _, _ :: _ => false
  | .sh _ :: as, _ :: bs => okTo as bs
  | .un :: as, _ :: bs => okTo as bs
  | [], _ :: _ => false
  | _ :: _, [] => false
def compF (vs : List Nat) (g : GF) (tt : BF) (el : EF) : List PyData → Rho → Option (List PyData × Rho)
  | [], ρ => some ([], ρ)
  | d :: ds, ρ => (g d ρ).bind fun ρ1 => if okTo ρ1 ρ = true then ((tt ρ1).bind fun p => if p.1 = true then ((el p.2).bind fun q => if noOwn vs q.2 = true then (compF vs g tt el ds (wipeR q.2 vs)).map fun r => (q.1 :: r.1, r.2) else none)
      else (if noOwn vs p.2 = true then compF vs g tt el ds (wipeR p.2 vs) else none)) else none
def bYes : BF := fun ρ => some (true, ρ)
/-- [el for g in src if tt], n names, vs the block's own -/
def eLc (n : Nat) (vs : List Nat) (src : LF) (g : GF) (tt : BF) (el : EF) : EF := fun ρ => (src ρ).bind fun p => if p.2.length = n ∧ noOwn vs p.2 = true ∧ p.1.length ≤ lim then (compF vs g tt el p.1 (wipeR p.2 vs)).map fun r => (.list r.1, unw p.2 r.2 vs) else none
def others (n : Nat) (vs : List Nat) : List Nat := (List.range n).filter fun j => !vs.contains j

/-! ### the lists under it -/
theorem wipeR_len (ρ : Rho) : ∀ vs : List Nat, (wipeR ρ vs).length = ρ.length
  | [] => rfl
  | v :: vs => by rw [wipeR, List.length_set, wipeR_len ρ vs]
theorem wipeR_out {ρ : Rho} {i : Nat} : ∀ {vs : List Nat}, i ∉ vs → (wipeR ρ vs)[i]? = ρ[i]?
  | [], _ => rfl
  | v :: vs, h => by
    rw [wipeR, List.getElem?_set_ne fun e => h (by rw [e]; exact List.mem_cons_self)]
    exact wipeR_out fun m => h (List.mem_cons_of_mem _ m)
theorem wipeR_in {ρ : Rho} {i : Nat} : ∀ {vs : List Nat}, i ∈ vs → i < ρ.length → (wipeR ρ vs)[i]? = some .un
  | v :: vs, h, hl => by
    rw [wipeR]
    by_cases e : v = i
    · subst e
      rw [List.getElem?_set_self (by rw [wipeR_len]; exact hl)]
    · rw [List.getElem?_set_ne e]
      exact wipeR_in (by rcases List.mem_cons.mp h with z | z; exact absurd z.symm e; exact z) hl
theorem wipe_in {σ : L2.St} {i : Nat} : ∀ {vs : List Nat}, i ∈ vs → i < σ.length → (L2.wipe σ vs)[i]? = some none
  | v :: vs, h, hl => by
    rw [L2.wipe]
    by_cases e : v = i
    · subst e
      rw [List.getElem?_set_self (by rw [L2.wipe_length]; exact hl)]
    · rw [List.getElem?_set_ne e]
      exact wipe_in (by rcases List.mem_cons.mp h with z | z; exact absurd z.symm e; exact z) hl
theorem unw_len (ρ0 ρ : Rho) : ∀ vs : List Nat, (unw ρ0 ρ vs).length = ρ.length
  | [] => rfl
  | v :: vs => by
    rw [unw]
    split
    · rw [List.length_set, unw_len ρ0 ρ vs]
    · exact unw_len ρ0 ρ vs
theorem unw_out {ρ0 ρ : Rho} {i : Nat} : ∀ {vs : List Nat}, i ∉ vs → (unw ρ0 ρ vs)[i]? = ρ[i]?
  | [], _ => rfl
  | v :: vs, h => by
    have h2 : i ∉ vs := fun m => h (List.mem_cons_of_mem _ m)
    rw [unw]
    split
    · rw [List.getElem?_set_ne fun e => h (by rw [e]; exact List.mem_cons_self)]
      exact unw_out h2
    · exact unw_out h2
theorem unw_in {ρ0 ρ : Rho} {i : Nat} (hl : ρ0.length = ρ.length) : ∀ {vs : List Nat}, i ∈ vs → (unw ρ0 ρ vs)[i]? = ρ0[i]?
  | v :: vs, h => by
    rw [unw]
    by_cases e : v = i
    · subst e
      cases q : ρ0[v]? with
      | none =>
        have hv : ρ0.length ≤ v := List.getElem?_eq_none_iff.mp q
        exact List.getElem?_eq_none (by rw [unw_len]; omega)
      | some s =>
        have hv : v < ρ0.length := (List.getElem?_eq_some_iff.mp q).1
        simp only
        rw [List.getElem?_set_self (by rw [unw_len]; omega)]
    · have h2 : i ∈ vs := by rcases List.mem_cons.mp h with z | z; exact absurd z.symm e; exact z
      split
      · rw [List.getElem?_set_ne e]
        exact unw_in hl h2
      · exact unw_in hl h2
theorem noOwn_at {vs : List Nat} {ρ : Rho} (h : noOwn vs ρ = true) {i : Nat} {d : PyData} (e : ρ[i]? = some (.ow d)) : i ∉ vs := fun m => by
  unfold noOwn at h
  have := List.all_eq_true.mp h i m
  rw [e] at this
  cases this
theorem wipe_agr {σ σ' : L2.St} {n : Nat} {vs : List Nat} (h1 : σ.length = n) (h2 : σ'.length = n) (a : Agr (others n vs) σ σ') : L2.wipe σ' vs = L2.wipe σ vs := by
  refine List.ext_getElem? fun j => ?_
  by_cases hj : j ∈ vs
  · by_cases hl : j < n
    · rw [wipe_in hj (by omega), wipe_in hj (by omega)]
    · rw [List.getElem?_eq_none (by rw [L2.wipe_length]; omega), List.getElem?_eq_none (by rw [L2.wipe_length]; omega)]
  · rw [L2.wipe_out hj, L2.wipe_out hj]
    by_cases hl : j < n
    · refine a j ?_
      unfold others
      rw [List.mem_filter]
      exact ⟨List.mem_range.mpr hl, by simpa using hj⟩
    · rw [List.getElem?_eq_none (by omega), List.getElem?_eq_none (by omega)]
theorem wipe_wipe (σ : L2.St) (vs : List Nat) : L2.wipe (L2.wipe σ vs) vs = L2.wipe σ vs := by
  refine List.ext_getElem? fun j => ?_
  by_cases hj : j ∈ vs
  · by_cases hl : j < σ.length
    · rw [wipe_in hj (by rw [L2.wipe_length]; exact hl), wipe_in hj hl]
    · rw [List.getElem?_eq_none (by rw [L2.wipe_length, L2.wipe_length]; omega), List.getElem?_eq_none (by rw [L2.wipe_length]; omega)]
  · rw [L2.wipe_out hj]
section
variable {P : Program} {w : World} {K : PySem.W.Frag} {A : Fb} {σ : L2.St} {H H' : Hp} {ρ ρ' : Rho} {vs : List Nat} {D : Addr}
theorem rt_wipe (h : noOwn vs ρ = true) {x : Addr} : Rt (L2.wipe σ vs) (wipeR ρ vs) x ↔ Rt σ ρ x := by
  constructor
  · rintro ⟨i, d, h1, h2⟩
    have hi : i ∉ vs := fun m => by
      have hl : i < (wipeR ρ vs).length := (List.getElem?_eq_some_iff.mp h1).1
      rw [wipeR_len] at hl
      rw [wipeR_in m hl] at h1
      cases h1
    rw [wipeR_out hi] at h1
    rw [L2.wipe_out hi] at h2
    exact ⟨i, d, h1, h2⟩
  · rintro ⟨i, d, h1, h2⟩
    have hi := noOwn_at h h1
    exact ⟨i, d, by rw [wipeR_out hi]; exact h1, by rw [L2.wipe_out hi]; exact h2⟩
theorem fbs_wipe (h : noOwn vs ρ = true) {x : Addr} : FbS A (L2.wipe σ vs) (wipeR ρ vs) x ↔ FbS A σ ρ x := by
  unfold FbS
  rw [rt_wipe h]
theorem RS.wipe (R : RS P w K A σ H ρ) (h : noOwn vs ρ = true) : RS P w K A (L2.wipe σ vs) H (wipeR ρ vs) where
  len := by rw [L2.wipe_length, wipeR_len, R.len]
  trk := R.trk
  sh := fun i d e => by
    have hi : i ∉ vs := fun m => by
      have hl : i < (wipeR ρ vs).length := (List.getElem?_eq_some_iff.mp e).1
      rw [wipeR_len] at hl
      rw [wipeR_in m hl] at e
      cases e
    rw [wipeR_out hi] at e
    obtain ⟨v, h1, h2⟩ := R.sh i d e
    exact ⟨v, by rw [L2.wipe_out hi]; exact h1, h2.mono fun a z => (fbs_wipe h).mp z⟩
  ow := fun i d e => by
    have hi : i ∉ vs := fun m => by
      have hl : i < (wipeR ρ vs).length := (List.getElem?_eq_some_iff.mp e).1
      rw [wipeR_len] at hl
      rw [wipeR_in m hl] at e
      cases e
    rw [wipeR_out hi] at e
    obtain ⟨a, h1, h2, h3⟩ := R.ow i d e
    exact ⟨a, by rw [L2.wipe_out hi]; exact h1, h2, h3.sub fun a z => (fbs_wipe h).mp z⟩
  inj := fun i j d e a h1 h2 h3 h4 => by
    have out : ∀ {i : Nat} {d : PyData}, (wipeR ρ vs)[i]? = some (.ow d) → i ∉ vs := fun {i d} e m => by
      have hl : i < (wipeR ρ vs).length := (List.getElem?_eq_some_iff.mp e).1
      rw [wipeR_len] at hl
      rw [wipeR_in m hl] at e
      cases e
    have oi := out h1
    have oj := out h2
    rw [wipeR_out oi] at h1
    rw [wipeR_out oj] at h2
    rw [L2.wipe_out oi] at h3
    rw [L2.wipe_out oj] at h4
    exact R.inj i j d e a h1 h2 h3 h4
/-- behind the block: the wiped slots are again as they were -/
theorem RS.unwipe {H1 : Hp} {ρ1 ρe : Rho} {B : Fb} (R1 : RS P w K A σ H1 ρ1) (h1 : noOwn vs ρ1 = true) (Re : RS P w K B (L2.wipe σ vs) H ρe) (he : ∀ (i : Nat) (d : PyData), i ∈ vs → ρe[i]? ≠ some (.ow d)) (st : Stp (Rt σ ρ1) (Rt (L2.wipe σ vs) ρe) H1 H) (hB : ∀ x, B x → A x ∨ H1 x = none) :
    RS P w K B σ H (unw ρ1 ρe vs) ∧ (∀ x, Rt σ (unw ρ1 ρe vs) x ↔ Rt (L2.wipe σ vs) ρe x) := by
  have hl : ρ1.length = ρe.length := by rw [← R1.len, ← Re.len, L2.wipe_length]
  have out : ∀ {i : Nat} {d : PyData}, (unw ρ1 ρe vs)[i]? = some (.ow d) → i ∉ vs := fun {i d} e m => by
    rw [unw_in hl m] at e
    exact noOwn_at h1 e m
  have rt : ∀ x, Rt σ (unw ρ1 ρe vs) x ↔ Rt (L2.wipe σ vs) ρe x := fun x => by
    constructor
    · rintro ⟨i, d, e1, e2⟩
      have hi := out e1
      rw [unw_out hi] at e1
      exact ⟨i, d, e1, by rw [L2.wipe_out hi]; exact e2⟩
    · rintro ⟨i, d, e1, e2⟩
      have hi : i ∉ vs := fun m => he i d m e1
      rw [L2.wipe_out hi] at e2
      exact ⟨i, d, by rw [unw_out hi]; exact e1, e2⟩
  have fb : ∀ x, FbS B σ (unw ρ1 ρe vs) x ↔ FbS B (L2.wipe σ vs) ρe x := fun x => by unfold FbS; rw [rt x]
  refine ⟨⟨by rw [unw_len, ← hl, R1.len], Re.trk, fun i d e => ?_, fun i d e => ?_, fun i j d e a q1 q2 q3 q4 => ?_⟩, rt⟩
  · by_cases hi : i ∈ vs
    · rw [unw_in hl hi] at e
      obtain ⟨v, e1, e2⟩ := R1.sh i d e
      refine ⟨v, e1, e2.step (fun a o q n => st.keep a o q fun z => n (.inr z)) fun a o q n z => ?_⟩
      rcases (fb a).mp z with z | z
      · rcases hB a z with z | z
        · exact n (.inl z)
        · rw [q] at z; cases z
      · exact (st.roots a z).elim (fun z => n (.inr z)) fun z => by rw [q] at z; cases z
    · rw [unw_out hi] at e
      obtain ⟨v, e1, e2⟩ := Re.sh i d e
      rw [L2.wipe_out hi] at e1
      exact ⟨v, e1, e2.mono fun a z => (fb a).mp z⟩
  · have hi := out e
    rw [unw_out hi] at e
    obtain ⟨a, e1, e2, e3⟩ := Re.ow i d e
    rw [L2.wipe_out hi] at e1
    exact ⟨a, e1, e2, e3.sub fun a z => (fb a).mp z⟩
  · have oi := out q1
    have oj := out q2
    rw [unw_out oi] at q1
    rw [unw_out oj] at q2
    exact Re.inj i j d e a q1 q2 (by rw [L2.wipe_out oi]; exact q3) (by rw [L2.wipe_out oj]; exact q4)
theorem okTo_len : ∀ {a b : Rho}, okTo a b = true → a.length = b.length
  | [], [], _ => rfl
  | .ow _ :: as, .ow _ :: bs, h => by rw [List.length_cons, List.length_cons, okTo_len (a := as) (b := bs) h]
  | .ow _ :: _, .sh _ :: _, h => by cases h
  | .ow _ :: _, .un :: _, h => by cases h
  | .sh _ :: as, _ :: bs, h => by rw [List.length_cons, List.length_cons, okTo_len (a := as) (b := bs) (by simpa [okTo] using h)]
  | .un :: as, _ :: bs, h => by rw [List.length_cons, List.length_cons, okTo_len (a := as) (b := bs) (by simpa [okTo] using h)]
  | [], _ :: _, h => by cases h
  | a :: _, [], h => by cases a <;> cases h
theorem okTo_ow : ∀ {a b : Rho}, okTo a b = true → ∀ {i : Nat} {d : PyData}, a[i]? = some (.ow d) → ∃ e, b[i]? = some (.ow e)
  | .ow _ :: as, .ow e :: bs, h, 0, d, _ => ⟨e, rfl⟩
  | .ow _ :: as, .ow _ :: bs, h, i + 1, d, q => okTo_ow (a := as) (b := bs) h (i := i) (d := d) q
  | .ow _ :: _, .sh _ :: _, h, _, _, _ => by cases h
  | .ow _ :: _, .un :: _, h, _, _, _ => by cases h
  | .sh _ :: as, _ :: bs, h, 0, d, q => by cases q
  | .sh _ :: as, _ :: bs, h, i + 1, d, q => okTo_ow (a := as) (b := bs) (by simpa [okTo] using h) (i := i) (d := d) q
  | .un :: as, _ :: bs, h, 0, d, q => by cases q
  | .un :: as, _ :: bs, h, i + 1, d, q => okTo_ow (a := as) (b := bs) (by simpa [okTo] using h) (i := i) (d := d) q
  | a :: _, [], h, _, _, _ => by cases a <;> cases h
theorem wipeR_noow {ρ : Rho} {vs : List Nat} (i : Nat) (d : PyData) (m : i ∈ vs) : (wipeR ρ vs)[i]? ≠ some (.ow d) := fun e => by
  have hl : i < (wipeR ρ vs).length := (List.getElem?_eq_some_iff.mp e).1
  rw [wipeR_len] at hl
  rw [wipeR_in m hl] at e
  cases e
end

/-! ### the reading -/
section
variable {P : Program} {w : World} {K : PySem.W.Frag}
/-- behind i items -/
structure LcI (P : Program) (w : World) (K : PySem.W.Frag) (A : Fb) (D : Addr) (σ : L2.St) (ρ1 : Rho) (H1 : Hp) (vs : List Nat) (n : Nat) (N : Nat) (F : List PyData → Rho → Option (List PyData × Rho)) (ds rs : List PyData) (ρe : Rho) (i : Nat) (H' : Hp) : Prop where
  ex : ∃ (ρi : Rho) (acc : List V) (accd rest : List PyData), RS P w K (A.add D) (L2.wipe σ vs) H' ρi ∧ Stp (Rt σ ρ1) (Rt (L2.wipe σ vs) ρi) H1 H' ∧ (∀ x, Rt (L2.wipe σ vs) ρi x → Rt σ ρ1 x) ∧
    H' D = some (.lst acc) ∧ DenAll P w K H' (FbS (A.add D) (L2.wipe σ vs) ρi) acc accd ∧ acc.length ≤ N ∧ F ds ρi = some (rest, ρe) ∧ accd ++ rest = rs ∧ ρi.length = n ∧ (∀ (j : Nat) (d : PyData), j ∈ vs → ρi[j]? ≠ some (.ow d))
theorem enR_lc {n : Nat} {vs : List Nat} {wi : TI} {tg : TG} {tt : TT} {te : TE} {src : LF} {g : GF} {b : BF} {el : EF} (hI : IvR P w K wi src) (hg : GvR P w K (others n vs) tg g) (ht : TvR P w K tt b) (he : EvR P w K te el) :
    EnR P w K (L2.tLc wi tg tt te vs) (eLc n vs src g b el) := by
  intro A σ H ρ d ρ' Q R e k
  unfold eLc at e
  obtain ⟨⟨ds, ρ1⟩, e1, e⟩ := Option.bind_eq_some_iff.mp e
  split at e
  · rename_i hc
    obtain ⟨hn, hno, hlim⟩ := hc
    obtain ⟨⟨rs, ρe⟩, e2, e⟩ := Option.map_eq_some_iff.mp e
    cases e
    refine hI A σ H ρ ds ρ1 _ R e1 fun It H1 R1 p1 wk => ?_
    intro D nD
    have R2 := (R1.fresh (ext_new (o := .lst []) nD) nD ⟨_, upd_same⟩).wipe hno
    have lσ : σ.length = n := by rw [R1.len]; exact hn
    refine ⟨fun i m H' => LcI P w K A D σ ρ1 H1 vs n i (compF vs g b el) (ds.drop i) rs ρe i H' ∧ i + m = ds.length, ⟨ds.length, ⟨⟨wipeR ρ1 vs, [], [], rs, R2, ⟨fun a o h z => ?_, fun a o h => ?_, fun a z => .inl ((rt_wipe hno).mp z)⟩, fun x z => (rt_wipe hno).mp z, upd_same, .nil, Nat.le_refl _, e2, rfl, by rw [wipeR_len]; exact hn, fun j d m => wipeR_noow j d m⟩, by omega⟩⟩, fun i m H' ⟨inv, em⟩ => ?_⟩
    · rw [upd_ne (show a ≠ D from fun z => by rw [z, nD] at h; cases h)]; exact h
    · rw [upd_ne (show a ≠ D from fun z => by rw [z, nD] at h; cases h)]; exact ⟨o, h⟩
    obtain ⟨ρi, acc, accd, rest, Ri, sti, subi, hD, hacc, hlen, hF, happ, hni, hvi⟩ := inv.ex
    have wki := wk H' (FbS (A.add D) (L2.wipe σ vs) ρi) (fun a o q z => sti.keep a o q fun y => z (.inr y)) (fun a o q z y => by
      rcases y with (y | y) | y
      · exact z (.inl y)
      · rw [y, nD] at q; cases q
      · exact (sti.roots a y).elim (fun y => z (.inr y)) fun y => by rw [q] at y; cases y) Ri.ftrk i
    by_cases hi : i < ds.length
    · right
      have hd : ds[i]? = some ds[i] := List.getElem?_eq_getElem hi
      obtain ⟨go, yl⟩ := wki.1 _ hd
      refine ⟨go, fun H'' => LcI P w K A D σ ρ1 H1 vs n (i + 1) (compF vs g b el) (ds.drop (i + 1)) rs ρe (i + 1) H'', fun H'' h => ⟨m - 1, by omega, h, by omega⟩, fun x H'' hy => ?_⟩
      obtain ⟨ex, dx⟩ := yl x H'' hy
      rw [List.drop_eq_getElem_cons hi, compF] at hF
      obtain ⟨ρ2, eg, hF⟩ := Option.bind_eq_some_iff.mp hF
      split at hF
      · rename_i hok
        obtain ⟨⟨b1, ρ3⟩, et, hF⟩ := Option.bind_eq_some_iff.mp hF
        refine hg (A.add D) (L2.wipe σ vs) H'' ρi x _ ρ2 _ (Ri.ext ex) dx eg fun σ2 H3 R4 st4 agr => ?_
        have l2 : σ2.length = n := by rw [R4.len, okTo_len hok, hni]
        have ew : L2.wipe σ2 vs = L2.wipe σ vs := by rw [wipe_agr (by rw [L2.wipe_length]; exact lσ) l2 agr, wipe_wipe]
        have sub2 : ∀ x, Rt σ2 ρ2 x → Rt (L2.wipe σ vs) ρi x := fun x ⟨j, dj, q1, q2⟩ => by
          obtain ⟨ej, q3⟩ := okTo_ow hok q1
          have hj : j ∉ vs := fun m => hvi j ej m q3
          refine ⟨j, ej, q3, ?_⟩
          have hjn : j < n := by rw [← l2]; exact (List.getElem?_eq_some_iff.mp q2).1
          have := agr j (by unfold others; rw [List.mem_filter]; exact ⟨List.mem_range.mpr hjn, by simpa using hj⟩)
          rw [← this]
          exact q2
        have sx : Stp (Rt (L2.wipe σ vs) ρi) (Rt (L2.wipe σ vs) ρi) H' H'' := (Pe.ext ex).stp
        have D3 : H3 D = some (.lst acc) := st4.keep D _ (ex D _ hD) (Ri.noroot D (.inr rfl))
        refine ⟨ew, ht (A.add D) σ2 H3 ρ2 b1 ρ3 _ R4 et fun H4 R5 p5 => ?_⟩
        have D4 : H4 D = some (.lst acc) := p5.keep D _ D3 (R4.noroot D (.inr rfl))
        simp only at hF
        cases b1 with
        | true =>
          rw [if_pos rfl] at hF
          rw [if_pos rfl]
          obtain ⟨⟨dy, ρ4⟩, ee, hF⟩ := Option.bind_eq_some_iff.mp hF
          split at hF
          · rename_i hno4
            obtain ⟨⟨rr, ρz⟩, er, hF⟩ := Option.map_eq_some_iff.mp hF
            cases hF
            refine he (A.add D) σ2 H4 ρ3 dy ρ4 _ R5 ee fun y H5 R6 p6 n6 => ?_
            have D5 : H5 D = some (.lst acc) := p6.keep D _ D4 (R5.noroot D (.inr rfl))
            have S2 : Stp (Rt (L2.wipe σ vs) ρi) (Rt σ2 ρ4) H' H5 := (((sx.trans st4).trans p5.stp).trans p6.stp)
            have S := sti.trans S2
            refine ⟨acc, D5, lt_line (Nat.lt_of_le_of_lt hlen (Nat.lt_of_lt_of_le hi (Nat.le_trans hlim (by decide)))), ⟨wipeR ρ4 vs, acc ++ [y], accd ++ [dy], rr, ?_, ⟨fun a o h z => ?_, fun a o h => ?_, fun a z => ?_⟩, fun x z => ?_, upd_same, ?_, by rw [List.length_append]; simp; omega, er, by rw [List.append_assoc]; exact happ, ?_, fun j d m => wipeR_noow j d m⟩⟩
            · have := (R6.prot (p := D) (.inr rfl) (.lst (acc ++ [y]))).wipe hno4
              rw [ew] at this
              exact this
            · rw [upd_ne (show a ≠ D from fun z => by rw [z, nD] at h; cases h)]
              exact S.keep a o h z
            · rw [upd_ne (show a ≠ D from fun z => by rw [z, nD] at h; cases h)]
              exact S.there a o h
            · rw [← ew] at z
              exact S.roots a ((rt_wipe hno4).mp z)
            · rw [← ew] at z
              exact subi x (sub2 x (p5.sub x (p6.sub x ((rt_wipe hno4).mp z))))
            · have a1 : DenAll P w K H5 (FbS (A.add D) σ2 ρ4) acc accd := Ri.denAll S2 hacc
              have a2 : DenAll P w K (upd H5 D (.lst (acc ++ [y]))) (FbS (A.add D) σ2 ρ4) (acc ++ [y]) (accd ++ [dy]) := (denAll_upd a1 (.inl (.inr rfl))).append (.cons (den_upd n6 (.inl (.inr rfl))) .nil)
              exact a2.mono fun a z => by rw [← ew] at z; exact (fbs_wipe hno4).mp z
            · rw [wipeR_len, ← R6.len]; exact l2
          · cases hF
        | false =>
          rw [if_neg (by decide)] at hF
          rw [if_neg (by decide)]
          split at hF
          · rename_i hno4
            have S2 : Stp (Rt (L2.wipe σ vs) ρi) (Rt σ2 ρ3) H' H4 := ((sx.trans st4).trans p5.stp)
            have S := sti.trans S2
            refine ⟨wipeR ρ3 vs, acc, accd, rest, ?_, ⟨fun a o h z => S.keep a o h z, fun a o h => S.there a o h, fun a z => ?_⟩, fun x z => ?_, D4, ?_, by omega, hF, happ, ?_, fun j d m => wipeR_noow j d m⟩
            · have := R5.wipe hno4
              rw [ew] at this
              exact this
            · rw [← ew] at z
              exact S.roots a ((rt_wipe hno4).mp z)
            · rw [← ew] at z
              exact subi x (sub2 x (p5.sub x ((rt_wipe hno4).mp z)))
            · have a1 : DenAll P w K H4 (FbS (A.add D) σ2 ρ3) acc accd := Ri.denAll S2 hacc
              exact a1.mono fun a z => by rw [← ew] at z; exact (fbs_wipe hno4).mp z
            · rw [wipeR_len, ← R5.len]; exact l2
          · cases hF
      · cases hF
    · left
      refine ⟨wki.2 (by omega), ?_⟩
      rw [List.drop_eq_nil_of_le (by omega), compF] at hF
      cases hF
      rw [List.append_nil] at happ
      subst happ
      obtain ⟨Ru, rt⟩ := RS.unwipe R1 hno Ri hvi sti fun x z => z.elim .inl fun z => .inr (by rw [z]; exact nD)
      refine k D H' Ru ⟨fun a o h z => sti.keep a o (p1.keep a o h z) fun y => z (p1.sub a y), fun a o h => let ⟨o', q⟩ := p1.there a o h; sti.there a o' q, fun a z => p1.sub a (subi a ((rt a).mp z))⟩ (back p1 nD) (.lst hD (hacc.mono fun a z => ?_))
      unfold FbS at z ⊢
      rw [rt a] at z
      exact z
  · cases e
end

/-! ### the rules -/
section
variable {X : Cx} {elt tg iter c : Expr} {ifs : List Expr} {scope : Scope} {own : List (Str × Nat)} {pos spos py : Pos} {src : LF} {g : GF} {b : BF} {el : EF} {i n : Nat} {y : Str} {J : List Nat}
/-- a comprehension's inner judgements: in every block -/
abbrev InBlk (X : Cx) (scope : Scope) (p : Cx → Prop) : Prop := ∀ (s : Shared) (H : Hp) (C : Addr) (cl : List (Str × Addr)) (fp : List Addr), p (X.blk s H scope (compEnvC scope cl C X.env) fp)
def IfsV (X : Cx) (ifs : List Expr) (b : BF) : Prop := (ifs = [] ∧ b = bYes) ∨ ∃ c, ifs = [c] ∧ TV X c b
theorem ifs_nil : IfsV X [] bYes := .inl ⟨rfl, rfl⟩
theorem ifs_one (h : TV X c b) : IfsV X [c] b := .inr ⟨c, rfl, h⟩
theorem tvR_yes {P : Program} {w : World} {K : PySem.W.Frag} : TvR P w K tYes bYes := fun A σ H ρ d ρ' Q R e k => by
  cases e
  exact k H R Pe.refl
theorem canI_pts (h : IfsV X ifs b) : PTs X ifs (canB X.prog X.w X.K b) := by
  rcases h with ⟨rfl, rfl⟩ | ⟨c, rfl, h⟩
  · refine ⟨fun pins s σ H Q I ⟨A, ρ, d, ρ', R, e, k⟩ => pts_nil.run pins s σ H Q I ?_⟩
    cases e
    exact k H R Pe.refl
  · exact pts_one (canB_pt h)
theorem en_lc (n : Nat) (own : List (Str × Nat)) (hN : X.N.Nodup) (hi : IV X tg iter src) (hg : InBlk X scope fun Y => GV Y (others n (own.map (·.2))) tg g) (ht : InBlk X scope fun Y => IfsV Y ifs b) (he : InBlk X scope fun Y => EV Y elt el)
    (ok : blkC X.N X.env.scope scope own = true := by decide +kernel) (hc : X.calm = true := by rfl) (hs : ∀ x, foldedSetIterable iter X.env x = pure x := by intro _; rfl) : EN X (.ListComp elt [⟨tg, iter, ifs, 0⟩] scope pos) (eLc n (own.map (·.2)) src g b el) :=
  ⟨_, pe_lc hc hN (canI_pi hi) (blkOk_by ok) (fun s H C cl fp => canG_pg (hg s H C cl fp)) (fun s H C cl fp => canI_pts (ht s H C cl fp)) (fun s H C cl fp => canE_pe (he s H C cl fp)) hs, enR_lc canI_r canG_r canB_r canE_r⟩
/-- y = [..], y a local -/
theorem sv_lc (i n : Nat) (own : List (Str × Nat)) (hN : X.N.Nodup) (nf : EF → NF) (hnf : ∀ {t : TE} {f : EF}, EnR X.prog X.w X.K t f → NvR X.prog X.w X.K t (nf f)) (hi : IV X tg iter src) (hg : InBlk X scope fun Y => GV Y (others n (own.map (·.2))) tg g) (ht : InBlk X scope fun Y => IfsV Y ifs b) (he : InBlk X scope fun Y => EV Y elt el)
    (hy : X.N[i]? = some y := by rfl) (hyl : X.env.scope.names.lookup y = some .local := by rfl) (hJ : J.contains i = false := by rfl)
    (hk : X.env.scope.kind = .function := by rfl) (hl : (py.line == pos.line) = true := by rfl) (ha : (scope.names.any fun (n, k) => n == y && (k == .local || k == .cell)) = false := by rfl)
    (ok : blkC X.N X.env.scope scope own = true := by decide +kernel) (hc : X.calm = true := by rfl) (hs : ∀ x, foldedSetIterable iter X.env x = pure x := by intro _; rfl) : SV X J (.Assign [.Name y py] (.ListComp elt [⟨tg, iter, ifs, 0⟩] scope pos) spos) (sSet i (nf (eLc n (own.map (·.2)) src g b el))) :=
  ⟨_, ps_setLc hc hN hy hyl (sw_true hk hyl hl ha) (canI_pi hi) (blkOk_by ok) (fun s H C cl fp => canG_pg (hg s H C cl fp)) (fun s H C cl fp => canI_pts (ht s H C cl fp)) (fun s H C cl fp => canE_pe (he s H C cl fp)) hs, svR_set (hnf (enR_lc canI_r canG_r canB_r canE_r)) hJ⟩
end
end EV
namespace EV
open PySem PySem.Spec PyProof.Rows L2

/-! ### x[::-1] -/
def dRev (x : PyData) : Option PyData := match x with
  | .list ds => some (.list ds.reverse)
  | .tuple ds => some (.tuple ds.reverse)
  | _ => none
section
variable {prog : Program} {w : World} {A : Around} {E : Value → Shared → Prop} {s : Shared}
theorem back_places (n : Nat) : Builtin.Slice.sliceAdjust none none (-1) (n : Int) = ((n : Int) - 1, -1) ∧ Builtin.Slice.slicePlaces ((n : Int) - 1) (-1) (-1) = n := by
  constructor
  · rfl
  · unfold Builtin.Slice.slicePlaces
    rw [if_neg (by decide)]
    by_cases h : n = 0
    · subst h; rfl
    · rw [if_pos (show ((n : Int) - 1) > -1 by omega)]
      show (((n : Int) - 1 - -1 - 1) / (- -1) + 1).toNat = n
      rw [show (- (-1 : Int)) = 1 from rfl, Int.ediv_one]
      omega
theorem back_pick (xs : List Value) : ((List.range xs.length).filterMap fun (k : Nat) => xs.toArray[(((xs.length : Int) - 1) + (k : Int) * (-1)).toNat]?) = xs.reverse := by
  have e : ∀ n : Nat, n ≤ xs.length → ((List.range n).filterMap fun (k : Nat) => xs.toArray[(((xs.length : Int) - 1) + (k : Int) * (-1)).toNat]?) = xs.reverse.take n := fun n => by
    induction n with
    | zero => intro _; rfl
    | succ n ih =>
      intro hn
      rw [List.range_succ, List.filterMap_append, ih (by omega)]
      have h1 : (((xs.length : Int) - 1) + (n : Int) * (-1)).toNat = xs.length - 1 - n := by omega
      have h2 : xs.length - 1 - n < xs.length := by omega
      have h3 : n < xs.reverse.length := by rw [List.length_reverse]; omega
      rw [List.take_succ_eq_append_getElem h3]
      congr 1
      simp only [List.filterMap_cons, List.filterMap_nil, h1, List.getElem?_toArray, List.getElem?_eq_getElem h2]
      rw [List.getElem_reverse]
  rw [e _ (Nat.le_refl _), ← List.length_reverse, List.take_length]
theorem sliceApplied_back {sl : Addr} {vl vu vs : Value} {n : Nat} {Q : Int × Int × Nat → Shared → Prop} (hs : s.heap.IsSliceOf sl vl vu vs) (pl : IsPart vl none) (pu : IsPart vu none) (ps : IsPart vs (some (-1)))
    (h : Q ((n : Int) - 1, -1, n) s) : wpAny (model prog w) A (Builtin.Slice.sliceApplied (.ref sl) (pure (n : Int))) Q E s := by
  obtain ⟨os, hos, hcs, hds⟩ := id hs
  unfold Builtin.Slice.sliceApplied Builtin.Slice.sliceFields
  refine wpAny_bind (wpAny_bind (wpAny_field hos hds (x := vl) rfl (wpAny_bind (wpAny_field hos hds (x := vu) rfl (wpAny_bind (wpAny_field hos hds (x := vs) rfl (wpAny_pure ?_)))))))
  refine wpAny_bind (HT.slicePart_ ps ?_)
  show wpAny _ _ (if ((-1 : Int) == 0) = true then _ else _) _ _ s
  rw [if_neg (by decide)]
  refine wpAny_bind (HT.slicePart_ pl (wpAny_bind (HT.slicePart_ pu (wpAny_bind (wpAny_pure ?_)))))
  show wpAny _ _ (match Builtin.Slice.sliceAdjust none none (-1) (n : Int) with | (lo, hi) => pure (lo, (-1 : Int), Builtin.Slice.slicePlaces lo hi (-1))) _ _ s
  rw [(back_places n).1]
  show wpAny _ _ (pure (((n : Int) - 1), (-1 : Int), Builtin.Slice.slicePlaces ((n : Int) - 1) (-1) (-1))) _ _ s
  rw [(back_places n).2]
  exact wpAny_pure h
theorem getItem_tuple_back {t sl : Addr} {xs : List Value} {vl vu vs : Value} {Q : Value → Shared → Prop} (ht : IsTup s.heap t xs.toArray) (hs : s.heap.IsSliceOf sl vl vu vs) (pl : IsPart vl none) (pu : IsPart vu none) (ps : IsPart vs (some (-1)))
    (h : Q (.ref s.heap.objs.size) { s with heap := s.heap.push { cls := .type "tuple", data := .seq xs.reverse.toArray } }) (hsz : xs.length ≤ sizeLine) : wpAny (model prog w) A (getItem (.ref t) (.ref sl)) Q E s := by
  have htake : sizeOk (.seq xs.reverse.toArray) := by
    show xs.reverse.toArray.size ≤ sizeLine
    rw [List.size_toArray, List.length_reverse]
    exact hsz
  obtain ⟨os, hos, hcs, hds⟩ := id hs
  have hTs : s.TypeIs (.ref sl) "slice" := ⟨os, hos, hcs⟩
  unfold getItem
  try with_reducible refine wpAny_holding ?_
  first | refine wpAny_bind (wpAny_pure ?_) | skip
  refine wpAny_bind (wpAny_sequenceKey ht.typeIs (by decide) ?_)
  refine wpAny_bind (wpAny_callSpecial?_slot (name := Str.ofString "__getitem__") ht.typeIs PyProof.Rows.slot_tuple_getitem
    (wpAny_call_entry PyProof.Rows.slot_tuple_getitem ht.typeIs PyProof.Rows.entry_tuple_getitem ?_ (PyProof.Rows.args_tuple_getitem _ _)))
  show wpAny _ _ (Builtin.Tuple.tupleItemsOf (.ref t) >>= _) _ _ s
  refine wpAny_bind (tupleItemsOf_ ht ?_)
  refine wpAny_bind (wpAny_typeOf hTs ?_)
  rw [if_pos (by decide)]
  rw [show xs.toArray.size = xs.length from List.size_toArray]
  refine wpAny_bind (sliceApplied_back hs pl pu ps ?_)
  have hno : ¬ ((((xs.length : Int) - 1) == 0 && (-1 : Int) == 1 && xs.length == xs.length) = true) := by
    intro q
    rw [Bool.and_eq_true, Bool.and_eq_true] at q
    exact absurd q.1.2 (by decide)
  show wpAny _ _ (if (((xs.length : Int) - 1) == 0 && (-1 : Int) == 1 && xs.length == xs.length) = true then _ else _) _ _ s
  rw [if_neg hno, back_pick]
  first
    | exact wpAny_bind (m := Builtin.Tuple.tupleExact _) (wpAny_newObj_type (wpAny_pure ⟨_, rfl, wpAny_pure h⟩) htake)
    | exact wpAny_bind (m := Builtin.Tuple.tupleExact _) (wpAny_newObj_type (wpAny_bind (wpAny_pure (wpAny_pure ⟨_, rfl, wpAny_pure h⟩))) htake)
    | exact wpAny_bind (wpAny_bind (m := Builtin.Tuple.tupleExact _) (wpAny_newObj_type (wpAny_pure (wpAny_pure ⟨_, rfl, wpAny_pure h⟩)) htake))
    | exact wpAny_bind (wpAny_bind (m := Builtin.Tuple.tupleExact _) (wpAny_newObj_type (wpAny_pure ⟨_, rfl, wpAny_pure h⟩) htake))
end
/-- x[::-1], a list or a tuple -/
def tRev (K : PySem.W.Frag) (te : TE) : TE := fun σ H Q => te σ H fun x H1 => (∃ a xs, x = .ref a ∧ SqL K H1 a xs ∧ ∀ p, H1 p = none → Q (.ref p) (upd H1 p (.lst xs.reverse))) ∨ (∃ a xs, x = .ref a ∧ SqT K H1 a xs ∧ ∀ p, H1 p = none → Q (.ref p) (upd H1 p (.tup xs.reverse)))
def eRev (f : EF) : EF := eUn dRev f
section
variable {X : Cx} {e : Expr} {te : TE} {f : EF} {k : Nat} {p1 p2 p3 pos : Pos}
theorem pe_rev (he : PE X e te) : PE X (.Subscript e (.Slice none none (some (.UnaryOp .USub (.Constant (.int 1) k p1) p2)) p3) pos) (tRev X.K te) := by
  refine ⟨fun pins s σ H Q I h => ?_⟩
  refine Subscript_ (thn (he.run pins s σ H _ I h) fun v s1 ⟨x, H1, I1, r1, q1⟩ => ?_)
  have hst : PO X (some (.UnaryOp .USub (.Constant (.int 1) k p1) p2)) (tPart (tUn (rU fun i => .int (-i)) (tC (.int 1)))) := po_some (pe_un un_neg pe_int)
  refine wpAny_Slice (thn (po_none.run pins s1 σ H1 (fun o H2 => o = none ∧ H2 = H1) I1 ⟨rfl, rfl⟩) fun vl s2 ⟨l, H2, I2, pl, el, e2⟩ => ?_)
  subst el e2
  refine thn (po_none.run pins s2 σ H2 (fun o H3 => o = none ∧ H3 = H2) I2 ⟨rfl, rfl⟩) fun vu s3 ⟨u, H3, I3, pu, eu, e3⟩ => ?_
  subst eu e3
  refine thn (hst.run pins s3 σ H3 (fun o H4 => o = some (-1) ∧ H4 = H3) I3 ⟨1, rfl, -1, rfl, rfl, rfl⟩) fun vs s4 ⟨o, H4, I4, ps, eo, e4⟩ => ?_
  subst eo e4
  have I5 : Inv X pins σ H4 { s4 with heap := s4.heap.push { cls := .type "slice", data := .fields #[vl, vu, vs] } } := I4.kept (t' := s4.toks) fun b ob q => Heap.get?_push_of_some _ q
  rcases q1 with ⟨a, xs, ex, hx, q⟩ | ⟨a, xs, ex, hx, q⟩
  · subst ex
    cases r1
    obtain ⟨its, r, ht, hz⟩ := I5.list hx
    have hlen := r.length
    show wpAny (model X.prog X.w) X.A (subscriptTail e (.Slice none none (some (.UnaryOp .USub (.Constant (.int 1) k p1) p2)) p3) (.ref a) (.ref s4.heap.objs.size)) (EP X pins σ Q) X.xe { s4 with heap := s4.heap.push { cls := .type "slice", data := .fields #[vl, vu, vs] } }
    refine tail_any (ops := [.ref a, .ref s4.heap.objs.size]) ht.isList.typeIs (PySem.slot_list_getitem.lookup) ?_ (by with_unfolding_all rfl)
    refine wpAny_getItem_list_slice ht.isList (Heap.IsSliceOf.new _ vl vu vs) pl pu ps (by decide) ?_ (by rw [List.size_toArray]; omega)
    rw [PySem.W.krv_pick]
    exact ⟨.ref _, _, I5.laid (t' := s4.toks) (o := .lst xs.reverse) (fun b ob q => Heap.get?_push_of_some _ q) (Nat.le_refl _) ⟨by rw [List.length_reverse]; exact hz, _, 0, r.reverse, Heap.get?_push_size _ rfl⟩, rfl, q _ (I5.hok.fresh (Nat.le_refl _))⟩
  · subst ex
    cases r1
    obtain ⟨its, r, ht, hz⟩ := I5.tuple hx
    have hlen := r.length
    show wpAny (model X.prog X.w) X.A (subscriptTail e (.Slice none none (some (.UnaryOp .USub (.Constant (.int 1) k p1) p2)) p3) (.ref a) (.ref s4.heap.objs.size)) (EP X pins σ Q) X.xe { s4 with heap := s4.heap.push { cls := .type "slice", data := .fields #[vl, vu, vs] } }
    refine tail_any (ops := [.ref a, .ref s4.heap.objs.size]) ht.typeIs (PyProof.Rows.slot_tuple_getitem.lookup) ?_ (by with_unfolding_all rfl)
    refine getItem_tuple_back ht (Heap.IsSliceOf.new _ vl vu vs) pl pu ps ?_ (by omega)
    exact ⟨.ref _, _, I5.laid (t' := s4.toks) (o := .tup xs.reverse) (fun b ob q => Heap.get?_push_of_some _ q) (Nat.le_refl _) ⟨by rw [List.length_reverse]; exact hz, _, r.reverse, IsTup.new _ _⟩, rfl, q _ (I5.hok.fresh (Nat.le_refl _))⟩
end
theorem evR_rev {P : Program} {w : World} {K : PySem.W.Frag} {te : TE} {f : EF} (hf : ExR P w K te f) : EvR P w K (tRev K te) (eRev f) := by
  intro A σ H ρ d ρ' Q R e k
  unfold eRev eUn at e
  obtain ⟨⟨d1, ρ1⟩, e1, e⟩ := Option.bind_eq_some_iff.mp e
  obtain ⟨z, e2, e⟩ := Option.map_eq_some_iff.mp e
  cases e
  refine hf A σ H ρ d1 _ _ R e1 fun v H1 R1 p1 n1 => ?_
  have e2 : dRev d1 = some _ := e2
  unfold dRev at e2
  split at e2
  · cases e2
    obtain ⟨a, xs, rfl, hq, t⟩ := n1.sqL
    refine .inl ⟨a, xs, rfl, hq, fun p hp => ?_⟩
    have ex := ext_new (o := .lst xs.reverse) hp
    exact k _ _ (R1.ext ex) (p1.trans (Pe.ext ex)) (.lst (nF R1 hp) (.inl upd_same) (t.reverse.ext ex))
  · cases e2
    obtain ⟨a, xs, rfl, hq, t⟩ := n1.sqT
    refine .inr ⟨a, xs, rfl, hq, fun p hp => ?_⟩
    have ex := ext_new (o := .tup xs.reverse) hp
    exact k _ _ (R1.ext ex) (p1.trans (Pe.ext ex)) (.tup (nF R1 hp) (.inl upd_same) (t.reverse.ext ex))
  · cases e2
theorem ev_rev {X : Cx} {e : Expr} {f : EF} {k : Nat} {p1 p2 p3 pos : Pos} (h : EX X e f) : EV X (.Subscript e (.Slice none none (some (.UnaryOp .USub (.Constant (.int 1) k p1) p2)) p3) pos) (eRev f) := let ⟨_, a1, a2⟩ := h; ⟨_, pe_rev a1, evR_rev a2⟩

/-! ### tuple(range(..)), list(range(..)) -/
def rgOk (a b : Int) : Bool := small62 a && (small62 b && decide ((b - a).toNat ≤ lim))
def eTR (f : LF) : EF := fun ρ => (f ρ).bind fun p => match p.1 with
  | [.int j] => if rgOk 0 j = true then some (.tuple (rng 0 j.toNat 1), p.2) else none
  | [.int i, .int j] => if rgOk i j = true then some (.tuple (rng i (j - i).toNat 1), p.2) else none
  | _ => none
def eLR (f : LF) : EF := fun ρ => (f ρ).bind fun p => match p.1 with
  | [.int j] => if rgOk 0 j = true then some (.list (rng 0 j.toNat 1), p.2) else none
  | [.int i, .int j] => if rgOk i j = true then some (.list (rng i (j - i).toNat 1), p.2) else none
  | _ => none
section
variable {P : Program} {w : World} {K : PySem.W.Frag} {H : Hp} {F : Fb}
theorem rgOk_of {a b : Int} (h : rgOk a b = true) : RgOk a b := by
  unfold rgOk at h
  rw [Bool.and_eq_true, Bool.and_eq_true] at h
  obtain ⟨h1, h2, h3⟩ := h
  have h3 := of_decide_eq_true h3
  exact ⟨(s62 h1).1, (s62 h1).2, (s62 h2).1, (s62 h2).2, Nat.le_trans h3 (by decide)⟩
theorem denAll_map {α : Type} (f : α → V) (g : α → PyData) (h : ∀ x, Den P w K H F (f x) (g x)) : ∀ xs : List α, DenAll P w K H F (xs.map f) (xs.map g)
  | [] => .nil
  | x :: xs => .cons (h x) (denAll_map f g h xs)
theorem den_rg (a b : Int) : DenAll P w K H F (rgV a b) (rng a (b - a).toNat 1) := by
  unfold rgV rng
  exact denAll_map _ _ (fun i => by rw [Int.mul_one]; exact .int _) _
variable {ta tb : TE} {f g : EF}
theorem evR_tr1 (hf : EvR P w K ta f) : EvR P w K (tTupRg (tRg1 ta)) (eTR (aCons f aNil)) := by
  intro A σ H ρ d ρ' Q R e k
  unfold eTR at e
  obtain ⟨⟨ds, ρ1⟩, e1, e⟩ := Option.bind_eq_some_iff.mp e
  unfold aCons at e1
  obtain ⟨⟨d1, r1⟩, q1, e1⟩ := Option.bind_eq_some_iff.mp e1
  obtain ⟨⟨d2, r2⟩, q2, e1⟩ := Option.map_eq_some_iff.mp e1
  cases q2
  cases e1
  simp only at e
  split at e
  · rename_i j hj
    split at e
    · rename_i hs
      cases e
      cases hj
      refine hf A σ H ρ _ _ _ R q1 fun v H1 R1 p1 n1 => ?_
      obtain rfl := den_int n1
      refine ⟨j, rfl, rgOk_of hs, fun p hp => ?_⟩
      have ex := ext_new (o := .tup (rgV 0 j)) hp
      have := den_rg (P := P) (w := w) (K := K) (H := upd H1 p (.tup (rgV 0 j))) (F := FbS A σ ρ') 0 j
      rw [Int.sub_zero] at this
      exact k _ _ (R1.ext ex) (p1.trans (Pe.ext ex)) (.tup (nF R1 hp) (.inl upd_same) this)
    · cases e
  · rename_i hj; cases hj
  · cases e
theorem evR_tr2 (hf : EvR P w K ta f) (hg : EvR P w K tb g) : EvR P w K (tTupRg (tRg2 ta tb)) (eTR (aCons f (aCons g aNil))) := by
  intro A σ H ρ d ρ' Q R e k
  unfold eTR at e
  obtain ⟨⟨ds, ρ1⟩, e1, e⟩ := Option.bind_eq_some_iff.mp e
  unfold aCons at e1
  obtain ⟨⟨d1, r1⟩, q1, e1⟩ := Option.bind_eq_some_iff.mp e1
  obtain ⟨⟨d2, r2⟩, q2, e1⟩ := Option.map_eq_some_iff.mp e1
  obtain ⟨⟨d3, r3⟩, q3, q2⟩ := Option.bind_eq_some_iff.mp q2
  obtain ⟨⟨d4, r4⟩, q4, q2⟩ := Option.map_eq_some_iff.mp q2
  cases q4
  cases q2
  cases e1
  simp only at e
  split at e
  · rename_i hj; cases hj
  · rename_i i j hj
    split at e
    · rename_i hs
      cases e
      cases hj
      refine hf A σ H ρ _ _ _ R q1 fun v H1 R1 p1 n1 => hg A σ H1 _ _ _ _ R1 q3 fun u H2 R2 p2 n2 => ?_
      obtain rfl := den_int n1
      obtain rfl := den_int n2
      refine ⟨i, j, rfl, rfl, rgOk_of hs, fun p hp => ?_⟩
      have ex := ext_new (o := .tup (rgV i j)) hp
      exact k _ _ (R2.ext ex) ((p1.trans p2).trans (Pe.ext ex)) (.tup (nF R2 hp) (.inl upd_same) (den_rg i j))
    · cases e
  · cases e
theorem enR_lr1 (hf : EvR P w K ta f) : EnR P w K (tLstRg (tRg1 ta)) (eLR (aCons f aNil)) := by
  intro A σ H ρ d ρ' Q R e k
  unfold eLR at e
  obtain ⟨⟨ds, ρ1⟩, e1, e⟩ := Option.bind_eq_some_iff.mp e
  unfold aCons at e1
  obtain ⟨⟨d1, r1⟩, q1, e1⟩ := Option.bind_eq_some_iff.mp e1
  obtain ⟨⟨d2, r2⟩, q2, e1⟩ := Option.map_eq_some_iff.mp e1
  cases q2
  cases e1
  simp only at e
  split at e
  · rename_i j hj
    split at e
    · rename_i hs
      cases e
      cases hj
      refine hf A σ H ρ _ _ _ R q1 fun v H1 R1 p1 n1 => ?_
      obtain rfl := den_int n1
      refine ⟨j, rfl, rgOk_of hs, fun p hp => ?_⟩
      have ex := ext_new (o := .lst (rgV 0 j)) hp
      have := den_rg (P := P) (w := w) (K := K) (H := upd H1 p (.lst (rgV 0 j))) (F := FbS (A.add p) σ ρ') 0 j
      rw [Int.sub_zero] at this
      exact k _ _ (R1.fresh ex hp ⟨_, upd_same⟩) (p1.trans (Pe.ext ex)) (back p1 hp) (.lst upd_same this)
    · cases e
  · rename_i hj; cases hj
  · cases e
end
section
variable {X : Cx} {a b : Expr} {f g : EF} {p p2 pos pos2 : Pos}
theorem ev_tr1 (hm : X.mg "tuple" = none) (hm2 : X.mg "range" = none) (h : EV X a f) (hc : X.calm = true := by rfl) (hg : Gl X "tuple" := by rfl) (hg2 : Gl X "range" := by rfl)
    (na : starEach [a] X.env = (false, eval a X.env) :: starEach [] X.env := by rfl) (nb : starEach [.Call (.Name "range" p2) [a] [] pos2] X.env = (false, eval (.Call (.Name "range" p2) [a] [] pos2) X.env) :: starEach [] X.env := by rfl) :
    EV X (.Call (.Name "tuple" p) [.Call (.Name "range" p2) [a] [] pos2] [] pos) (eTR (aCons f aNil)) := let ⟨_, a1, a2⟩ := h; ⟨_, pe_tupRg hc hg hm (prg_1 hg2 hm2 a1 na) nb, evR_tr1 a2⟩
theorem ev_tr2 (hm : X.mg "tuple" = none) (hm2 : X.mg "range" = none) (h : EV X a f) (h2 : EV X b g) (hc : X.calm = true := by rfl) (hg : Gl X "tuple" := by rfl) (hg2 : Gl X "range" := by rfl)
    (na : starEach [a, b] X.env = (false, eval a X.env) :: starEach [b] X.env := by rfl) (nc : starEach [b] X.env = (false, eval b X.env) :: starEach [] X.env := by rfl) (hp : (backTo pos2 (starEach [b] X.env)).any (·.1) = false := by rfl)
    (nb : starEach [.Call (.Name "range" p2) [a, b] [] pos2] X.env = (false, eval (.Call (.Name "range" p2) [a, b] [] pos2) X.env) :: starEach [] X.env := by rfl) :
    EV X (.Call (.Name "tuple" p) [.Call (.Name "range" p2) [a, b] [] pos2] [] pos) (eTR (aCons f (aCons g aNil))) := let ⟨_, a1, a2⟩ := h; let ⟨_, b1, b2⟩ := h2; ⟨_, pe_tupRg hc hg hm (prg_2 hg2 hm2 a1 b1 na nc hp) nb, evR_tr2 a2 b2⟩
theorem en_lr1 (hm : X.mg "list" = none) (hm2 : X.mg "range" = none) (h : EV X a f) (hc : X.calm = true := by rfl) (hg : Gl X "list" := by rfl) (hg2 : Gl X "range" := by rfl)
    (na : starEach [a] X.env = (false, eval a X.env) :: starEach [] X.env := by rfl) (nb : starEach [.Call (.Name "range" p2) [a] [] pos2] X.env = (false, eval (.Call (.Name "range" p2) [a] [] pos2) X.env) :: starEach [] X.env := by rfl) :
    EN X (.Call (.Name "list" p) [.Call (.Name "range" p2) [a] [] pos2] [] pos) (eLR (aCons f aNil)) := let ⟨_, a1, a2⟩ := h; ⟨_, pe_listRg hc hg hm (prg_1 hg2 hm2 a1 na) nb, enR_lr1 a2⟩
end
end EV
namespace EV
open PySem PySem.Spec PyProof.Rows L2
open PySem.W (alike minD maxD AlikeAll min_list_data min_tuple_data max_list_data max_tuple_data dataLt dataLe)

/-! ### isinstance -/
inductive PT
  | int | bool | str | tuple | dict
def PT.name : PT → String
  | .int => "int"
  | .bool => "bool"
  | .str => "str"
  | .tuple => "tuple"
  | .dict => "dict"
def isA (t : PT) (d : PyData) : Bool := match t, d with
  | .int, .int _ => true
  | .int, .bool _ => true
  | .bool, .bool _ => true
  | .str, .str _ => true
  | .tuple, .tuple _ => true
  | .dict, .dict _ => true
  | _, _ => false
def tyName (d : PyData) : String := match d with
  | .none => "NoneType"
  | .bool _ => "bool"
  | .int _ => "int"
  | .str _ => "str"
  | .list _ => "list"
  | .tuple _ => "tuple"
  | .dict _ => "dict"
def dIsA (t : PT) (d : PyData) : Option PyData := some (.bool (isA t d))
theorem kit_isA (t : PT) (d : PyData) : kitB (tyName d) t.name = some (isA t d) := by
  cases t <;> cases d <;> kernel_rfl
section
variable {P : Program} {w : World} {K : PySem.W.Frag} {H : Hp} {F : Fb}
theorem den_ty {v : V} {d : PyData} (h : DenX P w K H F v d) (hd : isD d = false) : TyX K H v (.type (tyName d)) := by
  cases h with
  | of h =>
    cases h with
    | non => exact .base .non
    | bl b => exact .base (.bl b)
    | int i => exact .base (.int i)
    | str x => exact .base (.str x)
    | lst n r t => exact r.elim (fun e => .base (.lst e)) fun ⟨o, e⟩ => .base (.frz e)
    | tup n r t => exact r.elim (fun e => .base (.tup e)) fun ⟨o, e⟩ => .fTuple e
    | ktup q t => obtain ⟨o, its, n, e, c, _⟩ := q; exact .kTuple e c
    | klst q t => obtain ⟨o, its, n, e, c, _⟩ := q; exact .kList e c
    | dk => cases hd
    | dt => cases hd
  | ow h =>
    cases h with
    | lst q t => exact .base (.lst q)
    | dk => cases hd
    | dt => cases hd
end
section
variable {X : Cx}
def rIs (P : Program) (w : World) (K : PySem.W.Frag) (t : PT) : List V → Hp → VK → Prop := fun xs H Q => ∃ (x : V) (F : Fb) (d : PyData), xs = [x, .ty t.name] ∧ DenX P w K H F x d ∧ Q (.bl (isA t d)) H
theorem c_isi (t : PT) : CallR X (.builtin "isinstance") (rIs X.prog X.w X.K t) := by
  intro pins s σ H xs us Q I r h
  obtain ⟨x, F, d, rfl, hx, q⟩ := h
  cases hd : isD d with
  | false => exact call_isi pins s σ H _ us Q I r ⟨x, .ty t.name, _, _, isA t d, rfl, .ty _, den_ty hx hd, kit_ty (kit_isA t d), q⟩
  | true =>
    obtain ⟨u1, u2, rfl, r1, r2⟩ := vals2 r
    cases r2
    have h1 : ∃ a ob, x = .ref a ∧ s.heap.get? a = some ob ∧ ob.cls = .type "dict" := by
      obtain ⟨a, F', ds, b, rfl, dx⟩ := isDO_of hx hd
      obtain ⟨⟨o, e1, e2⟩, _, _⟩ := dict_ty I dx
      exact ⟨a, o, rfl, e1, e2⟩
    obtain ⟨a, ob, rfl, e1, e2⟩ := h1
    cases (show u1 = Value.ref a from r1)
    have hk := kit_isA t d
    cases d with
    | dict ds => exact PySem.W.kia_one (PySem.W.kitx_dict) I.kIn ⟨ob, e1, e2⟩ (kit_ty hk) (fun z => by cases z) fun tk => ⟨.bl _, H, I.tok tk, rfl, q⟩
    | _ => cases hd
end
section
variable {P : Program} {w : World} {K : PySem.W.Frag} {te : TE} {f : EF} {t : PT}
theorem evR_isi (hf : ExR P w K te f) : EvR P w K (tCB (rIs P w K t) (tCons te (tCons (tC (.ty t.name)) tNil))) (eUn (dIsA t) f) := by
  intro A σ H ρ d ρ' Q R e k
  unfold eUn at e
  obtain ⟨⟨d1, ρ1⟩, e1, e⟩ := Option.bind_eq_some_iff.mp e
  obtain ⟨z, e2, e⟩ := Option.map_eq_some_iff.mp e
  cases e
  cases e2
  refine hf A σ H ρ d1 _ _ R e1 fun v H1 R1 p1 n1 => ?_
  show rIs P w K t [v, .ty t.name] H1 Q
  exact ⟨v, FbS A σ _, d1, rfl, n1, k _ H1 R1 p1 (.bl _)⟩
end
section
variable {X : Cx} {a : Expr} {f : EF} {x : Str} {p p2 pos : Pos}
theorem ev_isi (t : PT) (hm : X.mg "isinstance" = none) (hm2 : X.mg x = none) (h : EX X a f) (hg : Gl X "isinstance" := by rfl) (hg2 : Gl X x := by rfl) (hv : bootBuiltins "isinstance" = some (.builtin "isinstance") := by decide +kernel) (hv2 : bootBuiltins x = some (.type t.name) := by decide +kernel)
    (hn : x ≠ "__name__" := by decide) (hdb : (x == ("__debug__" : Str)) = false := by decide) (h1 : starEach [a, .Name x p2] X.env = (false, eval a X.env) :: starEach [.Name x p2] X.env := by rfl) (h2 : starEach [.Name x p2] X.env = (false, eval (.Name x p2) X.env) :: starEach [] X.env := by rfl)
    (hpl : (backTo pos (starEach [.Name x p2] X.env)).any (·.1) = false := by rfl) :
    EV X (.Call (.Name "isinstance" p) [a, .Name x p2] [] pos) (eUn (dIsA t) f) := let ⟨_, a1, a2⟩ := h; ⟨_, pe_callB (c_isi t) hg hm hv (pa_cons a1 (pa_cons (pe_bltn hg2 hm2 hv2 (show RelV (.ty t.name) (.type t.name) from rfl) hn hdb) pa_nil h2) h1) (he := h1) (hpl := hpl), evR_isi a2⟩
end

/-! ### sum, all, any, min, max -/
def intsOf : List PyData → Option (List Int)
  | [] => some []
  | .int i :: ds => (intsOf ds).map (i :: ·)
  | _ :: _ => none
def boolsOf : List PyData → Option (List Bool)
  | [] => some []
  | .bool i :: ds => (boolsOf ds).map (i :: ·)
  | _ :: _ => none
def dSum (x : PyData) : Option PyData := match x with
  | .list ds => (intsOf ds).map fun ns => .int ns.sum
  | _ => none
def dAll (x : PyData) : Option PyData := match x with
  | .list ds => (boolsOf ds).map fun bs => .bool (bs.all id)
  | _ => none
def dAny (x : PyData) : Option PyData := match x with
  | .list ds => (boolsOf ds).map fun bs => .bool (bs.any id)
  | _ => none
def alikeB (xs : List PyData) : Bool := xs.all fun a => !isNone a && xs.all fun b => alike a b
def mOk (xs : List PyData) : Bool := alikeB xs && (PyData.plainAll xs && decide (PyData.depthAll xs ≤ 50))
def dMin (x : PyData) : Option PyData := match x with
  | .list (d :: ds) => if mOk (d :: ds) = true then some (minD d ds) else none
  | .tuple (d :: ds) => if mOk (d :: ds) = true then some (minD d ds) else none
  | _ => none
def dMax (x : PyData) : Option PyData := match x with
  | .list (d :: ds) => if mOk (d :: ds) = true then some (maxD d ds) else none
  | .tuple (d :: ds) => if mOk (d :: ds) = true then some (maxD d ds) else none
  | _ => none
section
variable {P : Program} {w : World} {K : PySem.W.Frag} {H : Hp} {F : Fb}
theorem den_ints : ∀ {ds : List PyData} {vs : List V} {ns : List Int}, DenAll P w K H F vs ds → intsOf ds = some ns → vs = ns.map V.int
  | [], _, _, h, e => by cases h; cases e; rfl
  | d :: ds, _, _, h, e => by
    cases h with
    | cons h t =>
      cases d with
      | int i =>
        rw [intsOf] at e
        obtain ⟨ns, e1, rfl⟩ := Option.map_eq_some_iff.mp e
        rw [List.map_cons, ← den_ints t e1]
        cases h
        rfl
      | _ => cases e
theorem den_bools : ∀ {ds : List PyData} {vs : List V} {ns : List Bool}, DenAll P w K H F vs ds → boolsOf ds = some ns → vs = ns.map V.bl
  | [], _, _, h, e => by cases h; cases e; rfl
  | d :: ds, _, _, h, e => by
    cases h with
    | cons h t =>
      cases d with
      | bool i =>
        rw [boolsOf] at e
        obtain ⟨ns, e1, rfl⟩ := Option.map_eq_some_iff.mp e
        rw [List.map_cons, ← den_bools t e1]
        cases h
        rfl
      | _ => cases e
theorem mOk_of {xs : List PyData} (h : mOk xs = true) : AlikeAll xs ∧ PyData.plainAll xs = true ∧ PyData.depthAll xs ≤ 50 := by
  unfold mOk at h
  rw [Bool.and_eq_true, Bool.and_eq_true] at h
  obtain ⟨h1, h2, h3⟩ := h
  refine ⟨⟨fun x hx y hy => ?_, fun x hx e => ?_⟩, h2, of_decide_eq_true h3⟩
  · unfold alikeB at h1
    have := List.all_eq_true.mp h1 x hx
    rw [Bool.and_eq_true] at this
    exact List.all_eq_true.mp this.2 y hy
  · unfold alikeB at h1
    have := List.all_eq_true.mp h1 x hx
    rw [Bool.and_eq_true, e] at this
    exact absurd this.1 (by decide)
end
section
variable {X : Cx}
theorem c_sum (hc : X.calm = true) : C1S X (.builtin "sum") dSum := by
  intro pins s σ H xs us Q I r h
  obtain ⟨x, rfl, F, d, z, hF, hx, ez, q⟩ := h
  unfold dSum at ez
  split at ez
  · obtain ⟨ns, e1, rfl⟩ := Option.map_eq_some_iff.mp ez
    obtain ⟨a, ys, rfl, hq, t⟩ := hx.sqL
    rw [den_ints t e1] at hq
    exact cr_sum hc pins s σ H _ us Q I r ⟨a, ns, rfl, hq, q _ H (fun _ _ z => z) (.int _)⟩
  · cases ez
theorem c_all (hc : X.calm = true) : C1S X (.builtin "all") dAll := by
  intro pins s σ H xs us Q I r h
  obtain ⟨x, rfl, F, d, z, hF, hx, ez, q⟩ := h
  unfold dAll at ez
  split at ez
  · obtain ⟨ns, e1, rfl⟩ := Option.map_eq_some_iff.mp ez
    obtain ⟨a, ys, rfl, hq, t⟩ := hx.sqL
    rw [den_bools t e1] at hq
    exact cr_all hc pins s σ H _ us Q I r ⟨a, ns, rfl, hq, q _ H (fun _ _ z => z) (.bl _)⟩
  · cases ez
theorem c_any (hc : X.calm = true) : C1S X (.builtin "any") dAny := by
  intro pins s σ H xs us Q I r h
  obtain ⟨x, rfl, F, d, z, hF, hx, ez, q⟩ := h
  unfold dAny at ez
  split at ez
  · obtain ⟨ns, e1, rfl⟩ := Option.map_eq_some_iff.mp ez
    obtain ⟨a, ys, rfl, hq, t⟩ := hx.sqL
    rw [den_bools t e1] at hq
    exact cr_any hc pins s σ H _ us Q I r ⟨a, ns, rfl, hq, q _ H (fun _ _ z => z) (.bl _)⟩
  · cases ez
theorem plain_at {ds : List PyData} {i : Nat} {d : PyData} (hp : PyData.plainAll ds = true) (h : ds[i]? = some d) : d.plain = true := by
  induction ds generalizing i with
  | nil => simp at h
  | cons e ds ih =>
    rw [PyData.plainAll, Bool.and_eq_true] at hp
    cases i with
    | zero => cases h; exact hp.1
    | succ i => exact ih hp.2 h
/-- one of the items, read -/
theorem item_of {pins : List (Addr × Obj)} {σ : L2.St} {H : Hp} {s : Shared} {F : Fb} {xs : List V} {us : List Value} {ds : List PyData} (I : Inv X pins σ H s) (t : DenAll X.prog X.w X.K H F xs ds) (r : Vals xs us) (hp : PyData.plainAll ds = true) {i : Nat} {u : Value} (hu : us[i]? = some u)
    {h' : Heap} (hk : ∀ b o, s.heap.get? b = some o → h'.get? b = some o) {m : PyData} {bs : List Addr} (hr : Reads h' u m bs) : ∃ x, RelV x u ∧ Den X.prog X.w X.K H F x m := by
  have hi : i < us.length := (List.getElem?_eq_some_iff.mp hu).1
  have hx : i < xs.length := by rw [r.length]; exact hi
  have hd : ds[i]? = some (ds[i]'(by rw [← t.length]; exact hx)) := List.getElem?_eq_getElem _
  obtain ⟨x, e1, dn⟩ := t.get hd
  obtain ⟨u', e2, rx⟩ := r.get e1
  rw [hu] at e2
  cases e2
  have pl := plain_at hp hd
  obtain ⟨as, r1⟩ := Dp.reads I _ x u (den_dp dn pl) rx
  have r2 := PyProof.Rows.Reads.keeps hk r1
  have e := SeqAt.plain_unique _ _ _ _ _ pl r2 hr
  rw [← e]
  exact ⟨x, rx, dn⟩
theorem min_walk (hc : X.calm = true) (hu : X.A.units + 64 < cLine) : C1S X (.builtin "min") dMin := by
  intro pins s σ H xs us Q I r h
  obtain ⟨x, rfl, F, d, z, hF, hx, ez, q⟩ := h
  unfold dMin at ez
  split at ez
  · split at ez
    · rename_i hm
      cases ez
      obtain ⟨h1, h2, h3⟩ := mOk_of hm
      obtain ⟨a, ys, rfl, hq, t⟩ := hx.sqL
      obtain ⟨its, rv, hl, _⟩ := I.list hq
      rw [Vals.ref1 r]
      obtain ⟨as, rr⟩ := Dp.readsAll I _ _ its (denAll_dp t h2) rv
      refine min_list_data (I.ok.hd hc) hl.isList (by simpa using rr) h1 (by omega) fun i v h' tk bs hv hr hk => ?_
      obtain ⟨y, ry, dn⟩ := item_of I t rv h2 (by simpa using hv) hk hr
      exact ⟨y, H, I.kept (t' := tk) hk, ry, q y H (fun _ _ z => z) dn⟩
    · cases ez
  · split at ez
    · rename_i hm
      cases ez
      obtain ⟨h1, h2, h3⟩ := mOk_of hm
      obtain ⟨a, ys, rfl, hq, t⟩ := hx.sqT
      obtain ⟨its, rv, hl, _⟩ := I.tuple hq
      rw [Vals.ref1 r]
      obtain ⟨as, rr⟩ := Dp.readsAll I _ _ its (denAll_dp t h2) rv
      refine min_tuple_data (I.ok.hd hc) hl (by simpa using rr) h1 (by omega) fun i v h' tk bs hv hr hk => ?_
      obtain ⟨y, ry, dn⟩ := item_of I t rv h2 (by simpa using hv) hk hr
      exact ⟨y, H, I.kept (t' := tk) hk, ry, q y H (fun _ _ z => z) dn⟩
    · cases ez
  · cases ez
theorem max_walk (hc : X.calm = true) (hu : X.A.units + 64 < cLine) : C1S X (.builtin "max") dMax := by
  intro pins s σ H xs us Q I r h
  obtain ⟨x, rfl, F, d, z, hF, hx, ez, q⟩ := h
  unfold dMax at ez
  split at ez
  · split at ez
    · rename_i hm
      cases ez
      obtain ⟨h1, h2, h3⟩ := mOk_of hm
      obtain ⟨a, ys, rfl, hq, t⟩ := hx.sqL
      obtain ⟨its, rv, hl, _⟩ := I.list hq
      rw [Vals.ref1 r]
      obtain ⟨as, rr⟩ := Dp.readsAll I _ _ its (denAll_dp t h2) rv
      refine max_list_data (I.ok.hd hc) hl.isList (by simpa using rr) h1 (by omega) fun i v h' tk bs hv hr hk => ?_
      obtain ⟨y, ry, dn⟩ := item_of I t rv h2 (by simpa using hv) hk hr
      exact ⟨y, H, I.kept (t' := tk) hk, ry, q y H (fun _ _ z => z) dn⟩
    · cases ez
  · split at ez
    · rename_i hm
      cases ez
      obtain ⟨h1, h2, h3⟩ := mOk_of hm
      obtain ⟨a, ys, rfl, hq, t⟩ := hx.sqT
      obtain ⟨its, rv, hl, _⟩ := I.tuple hq
      rw [Vals.ref1 r]
      obtain ⟨as, rr⟩ := Dp.readsAll I _ _ its (denAll_dp t h2) rv
      refine max_tuple_data (I.ok.hd hc) hl (by simpa using rr) h1 (by omega) fun i v h' tk bs hv hr hk => ?_
      obtain ⟨y, ry, dn⟩ := item_of I t rv h2 (by simpa using hv) hk hr
      exact ⟨y, H, I.kept (t' := tk) hk, ry, q y H (fun _ _ z => z) dn⟩
    · cases ez
  · cases ez
end
end EV
namespace EV
open PySem PySem.Spec PyProof.Rows L2
open PySem.W (alike minD maxD AlikeAll dataLt dataLe AllAlike Sortable EachIs sorted_data TotalLe sort_unique sameRank sortLe_total sortLe keyToks)

/-! ### sorting by insertion -/
def insS {α : Type} (le : α → α → Bool) (a : α) : List α → List α
  | [] => [a]
  | b :: m => if le a b = true then a :: b :: m else b :: insS le a m
def sortS {α : Type} (le : α → α → Bool) : List α → List α
  | [] => []
  | a :: l => insS le a (sortS le l)
section
variable {α : Type} {le : α → α → Bool}
theorem mem_insS {a x : α} : ∀ {m : List α}, x ∈ insS le a m ↔ x = a ∨ x ∈ m
  | [] => by simp [insS]
  | b :: m => by
    rw [insS]
    split
    · simp
    · rw [List.mem_cons, mem_insS (m := m), List.mem_cons]
      constructor
      · rintro (h | h | h)
        · exact .inr (.inl h)
        · exact .inl h
        · exact .inr (.inr h)
      · rintro (h | h | h)
        · exact .inr (.inl h)
        · exact .inl h
        · exact .inr (.inr h)
theorem insS_sorted (h : TotalLe le) {a : α} : ∀ {m : List α}, m.Pairwise (fun a b => le a b = true) → (insS le a m).Pairwise (fun a b => le a b = true)
  | [], _ => by simp [insS]
  | b :: m, p => by
    rw [insS]
    rw [List.pairwise_cons] at p
    split
    · rename_i hab
      rw [List.pairwise_cons, List.pairwise_cons]
      refine ⟨fun x hx => ?_, p.1, p.2⟩
      rcases List.mem_cons.mp hx with rfl | hx
      · exact hab
      · exact h.trans _ _ _ hab (p.1 x hx)
    · rename_i hab
      rw [List.pairwise_cons]
      refine ⟨fun x hx => ?_, insS_sorted h p.2⟩
      rcases mem_insS.mp hx with rfl | hx
      · exact (h.total x b).elim (fun z => absurd z hab) id
      · exact p.1 x hx
theorem sortS_sorted (h : TotalLe le) : ∀ l : List α, (sortS le l).Pairwise (fun a b => le a b = true)
  | [] => List.Pairwise.nil
  | a :: l => insS_sorted h (sortS_sorted h l)
theorem insS_filter (h : TotalLe le) (c a : α) : ∀ m : List α, (insS le a m).filter (sameRank le c) = (a :: m).filter (sameRank le c)
  | [] => rfl
  | b :: m => by
    rw [insS]
    split
    · rfl
    · rename_i hab
      rw [List.filter_cons, insS_filter h c a m]
      cases hb : sameRank le c b with
      | false => simp [List.filter_cons, hb]
      | true =>
        cases ha : sameRank le c a with
        | false => simp [List.filter_cons, hb, ha]
        | true =>
          unfold sameRank at ha hb
          rw [Bool.and_eq_true] at ha hb
          exact absurd (h.trans _ _ _ ha.2 hb.1) hab
theorem sortS_filter (h : TotalLe le) (c : α) : ∀ l : List α, (sortS le l).filter (sameRank le c) = l.filter (sameRank le c)
  | [] => rfl
  | a :: l => by rw [sortS, insS_filter h, List.filter_cons, List.filter_cons, sortS_filter h c l]
theorem sortS_eq (h : TotalLe le) (l : List α) : sortS le l = l.mergeSort le := sort_unique h (sortS_sorted h l) (sortS_filter h · l)
theorem insS_len (a : α) : ∀ m : List α, (insS le a m).length = m.length + 1
  | [] => rfl
  | b :: m => by
    rw [insS]
    split
    · rfl
    · rw [List.length_cons, insS_len a m, List.length_cons]
theorem sortS_len : ∀ l : List α, (sortS le l).length = l.length
  | [] => rfl
  | a :: l => by rw [sortS, insS_len, sortS_len l, List.length_cons]
theorem mem_sortS {x : α} : ∀ {l : List α}, x ∈ sortS le l ↔ x ∈ l
  | [] => Iff.rfl
  | a :: l => by rw [sortS, mem_insS, mem_sortS (l := l), List.mem_cons]
end
def sortD (ds : List PyData) : List PyData := sortS (dataLe false id) ds
theorem sortD_eq (ds : List PyData) : sortD ds = ds.mergeSort (dataLe false id) := sortS_eq (sortLe_total (PyProof.Rows.listOrd PyProof.Rows.itemOrd) false fun b => keyToks (id b)) ds
/-- what sorted asks of its items -/
def isTupNe (d : PyData) : Bool := match d with
  | .tuple (_ :: _) => true
  | _ => false
def notTup (d : PyData) : Bool := match d with
  | .tuple _ => false
  | .none => false
  | _ => true
def sOk (xs : List PyData) : Bool := mOk xs && ((xs.all isTupNe || xs.all notTup) && decide (xs.length ≤ lim))
def dSort (x : PyData) : Option PyData := match x with
  | .list ds => if sOk ds = true then some (.list (sortD ds)) else none
  | _ => none
theorem sOk_of {xs : List PyData} (h : sOk xs = true) : AlikeAll xs ∧ PyData.plainAll xs = true ∧ PyData.depthAll xs ≤ 50 ∧ AllAlike (xs.map id) ∧ Sortable (xs.map id) ∧ xs.length ≤ lim := by
  unfold sOk at h
  rw [Bool.and_eq_true, Bool.and_eq_true, Bool.or_eq_true] at h
  obtain ⟨h1, h2, h3⟩ := h
  obtain ⟨a1, a2, a3⟩ := mOk_of h1
  refine ⟨a1, a2, a3, ?_, ?_, of_decide_eq_true h3⟩
  · rw [List.map_id]
    exact a1.1
  · rw [List.map_id]
    rcases h2 with h2 | h2
    · refine .inl fun d hd => ?_
      have := List.all_eq_true.mp h2 d hd
      cases d with
      | tuple xs => cases xs with
        | nil => cases this
        | cons x r => exact ⟨x, r, rfl⟩
      | _ => cases this
    · refine .inr fun d hd => ?_
      have := List.all_eq_true.mp h2 d hd
      cases d with
      | tuple xs => cases this
      | none => cases this
      | _ => exact ⟨(fun z => by cases z), fun _ z => by cases z⟩
section
variable {P : Program} {w : World} {K : PySem.W.Frag} {H : Hp} {F : Fb}
/-- values and what they denote, in some order -/
theorem each_den : ∀ {xs : List V} {us : List Value} {ds : List PyData}, DenAll P w K H F xs ds → Vals xs us → EachIs (fun u d => ∃ x, RelV x u ∧ Den P w K H F x d) us ds
  | _, _, _, .nil, .nil => .nil
  | _, _, _, .cons h t, .cons r rt => .cons ⟨_, r, h⟩ (each_den t rt)
theorem den_each {us : List Value} {ds : List PyData} (h : EachIs (fun u d => ∃ x, RelV x u ∧ Den P w K H F x d) us ds) : ∃ xs, Vals xs us ∧ DenAll P w K H F xs ds := by
  induction h with
  | nil => exact ⟨[], .nil, .nil⟩
  | cons h t ih =>
    obtain ⟨x, r, dn⟩ := h
    obtain ⟨xs, rr, dd⟩ := ih
    exact ⟨x :: xs, .cons r rr, .cons dn dd⟩
theorem depth_at {ds : List PyData} {d : PyData} (h : d ∈ ds) : d.depth ≤ PyData.depthAll ds := by
  induction ds with
  | nil => cases h
  | cons e ds ih =>
    rw [PyData.depthAll]
    rcases List.mem_cons.mp h with rfl | h
    · exact Nat.le_max_left ..
    · exact Nat.le_trans (ih h) (Nat.le_max_right ..)
end
section
variable {X : Cx}
theorem each_reads {pins : List (Addr × Obj)} {σ : L2.St} {H : Hp} {s : Shared} {F : Fb} (I : Inv X pins σ H s) : ∀ {xs : List V} {us : List Value} {ds : List PyData}, DenAll X.prog X.w X.K H F xs ds → Vals xs us → PyData.plainAll ds = true → EachIs (fun v b => ∃ as, Reads s.heap v (id b) as) us ds
  | _, _, _, .nil, .nil, _ => .nil
  | _, _, _, .cons h t, .cons r rt, p => by
    rw [PyData.plainAll, Bool.and_eq_true] at p
    exact .cons (Dp.reads I _ _ _ (den_dp h p.1) r) (each_reads I t rt p.2)
theorem c_sorted (hu : X.A.units + 64 < cLine) : C1N X (.builtin "sorted") dSort := by
  intro pins s σ H xs us Q I r h
  obtain ⟨x, rfl, F, d, z, hF, hx, ez, q⟩ := h
  unfold dSort at ez
  split at ez
  · split at ez
    · rename_i ds hs
      cases ez
      obtain ⟨h1, h2, h3, h4, h5, h6⟩ := sOk_of hs
      obtain ⟨a, ys, rfl, hq, t⟩ := hx.sqL
      obtain ⟨its, rv, hl, _⟩ := I.list hq
      rw [Vals.ref1 r]
      refine sorted_data (enc := id) hl.isList (each_den t rv) (each_reads I t rv h2) h4 h5 (lim_line h6) (fun b hb => by have := depth_at hb; show X.A.units + 2 + b.depth < cLine; omega) fun out ho he => ?_
      rw [← sortD_eq] at he
      obtain ⟨zs, rz, dz⟩ := den_each he
      obtain ⟨c, hc⟩ := sortedAll_at s.heap its out.toArray
      have hz : zs.length = ds.length := by rw [rz.length, ho]
      have fr : H (s.heap.objs.size + 1) = none := I.hok.fresh (Nat.le_succ _)
      have ex := ext_new (o := .lst zs) fr
      exact ⟨.ref (s.heap.objs.size + 1), upd H (s.heap.objs.size + 1) (.lst zs), I.laid (t' := s.toks) (fun b o e => sortedAll_old e) (Nat.le_succ _) ⟨by rw [hz]; exact lim_line h6, out, c, rz, hc⟩, rfl, q _ _ ex fr (.lst upd_same (denAll_new ex fr dz))⟩
    · cases ez
  · cases ez
end
end EV
namespace EV
open PySem PySem.Spec PyProof.Rows L2
open PySem.W (alike minD maxD AlikeAll dataLt dataLe AllAlike Sortable EachIs sorted_data SortsAt sortVals sortVals_data each_map bound_map sortVals_length list_sort_vals copyHeap_at copyHeap sortingHeap sorting_copy_old)

/-! ### sorted of a tuple -/
section
variable {prog : Program} {w : World} {A : Around} {E : Value → Shared → Prop} {s : Shared}
theorem collect_tup {l : Addr} {vs : List Value} {Q : List Value → Shared → Prop} (hl : IsTup s.heap l vs.toArray)
    (h : Q vs { s with heap := (s.heap.push (seqObj "list" #[] 0)).update s.heap.objs.size (Obj.mapSeq (· ++ vs.toArray)) }) (hsz : vs.length ≤ sizeLine) :
    wpAny (model prog w) A (collect (.ref l)) Q E s := by
  obtain ⟨o, ho, hc, n, hd⟩ := id hl
  unfold collect
  refine wpAny_bind (wpAny_runValue (codeAny_builtin entry_proto_collect' ?_))
  show wpAny _ _ (do again (.builtin "list.__iadd__" ⟨[← newList [], .ref l], []⟩)) _ _ s
  refine wpAny_bind (wpAny_newList (wpAny_pure ⟨Code.quiet_builtin _ (by decide +kernel), codeAny_builtin entry_list_iadd' ?_⟩))
  show wpAny _ _ (Builtin.List.listExtendWith (.ref s.heap.objs.size) (.ref l) (.ref s.heap.objs.size)) _ _ { s with heap := s.heap.push (seqObj "list" #[] 0) }
  unfold Builtin.List.listExtendWith
  have ho' : (s.heap.push (seqObj "list" #[] 0)).get? l = some o := Heap.get?_push_of_some _ ho
  refine wpAny_bind (wpAny_typeOf (T := "tuple") ⟨o, ho', hc⟩ ?_)
  have ht : (Value.type "tuple" == Value.type "tuple") = true := by rfl
  rw [if_pos (by rw [ht]; simp)]
  refine wpAny_bind (listItems_at ho' hd ?_)
  refine wpAny_bind (listItems_at (xs := #[]) (n := 0) (Heap.get?_push_size _ rfl) rfl ?_)
  rw [if_neg (by simp)]
  refine wpAny_bind (listUpdate_at (xs := #[]) (n := 0) (Heap.get?_push_size _ rfl) rfl ?_ (Nat.zero_le _) (by show (#[] ++ vs.toArray).size ≤ sizeLine + 1; simp only [Array.size_append, List.size_toArray, List.length_nil]; omega))
  refine wpAny_pure ?_
  show wpAny (model prog w) A (do
      let o ← load s.heap.objs.size
      match o.data with
      | .seq xs _ => pure xs.toList
      | _ => unsupported "internal:collect") Q E { s with heap := (s.heap.push (seqObj "list" #[] 0)).update s.heap.objs.size (Obj.mapSeq (· ++ vs.toArray)) }
  refine wpAny_bind (wpAny_load (get?_update_seq (Heap.get?_push_size _ rfl) _) ?_)
  show wpAny _ _ (pure ((#[] : Array Value) ++ vs.toArray).toList) Q E _
  rw [show ((#[] : Array Value) ++ vs.toArray).toList = vs by simp]
  exact wpAny_pure h
theorem sorted_tup {β : Type} {enc : β → PyData} {R : Value → β → Prop} {bs : List β} {l : Addr} {vs : List Value} {Q : Value → Shared → Prop} (hl : IsTup s.heap l vs.toArray) (e : EachIs R vs bs) (er : EachIs (fun v b => ∃ as, Reads s.heap v (enc b) as) vs bs) (hal : AllAlike (bs.map enc)) (hk : Sortable (bs.map enc)) (hL : bs.length ≤ sizeLine)
    (hu : ∀ b, b ∈ bs → A.units + 2 + (enc b).depth < cLine) (h : ∀ out, out.length = bs.length → EachIs R out (bs.mergeSort (dataLe false enc)) → Q (.ref (s.heap.objs.size + 1)) { s with heap := sortedAll s.heap vs (List.toArray out) }) :
    wpAny (model prog w) A (call (.builtin "sorted") [.ref l]) Q E s := by
  have er' : EachIs (fun v b => ∃ as, Reads (sortingHeap (copyHeap s.heap vs) (s.heap.objs.size + 1) vs) v (enc b) as) vs bs := er.mono fun _ _ ⟨as, r⟩ => ⟨as, PyProof.Rows.Reads.keeps (fun _ _ => sorting_copy_old) r⟩
  have hLv : vs.length ≤ sizeLine := by rw [e.length]; exact hL
  have S := SortsAt.data (prog := prog) (w := w) (A := A.in1.in1) (s := { s with heap := sortingHeap (copyHeap s.heap vs) (s.heap.objs.size + 1) vs }) (each_map (R := fun v d => ∃ as, Reads (sortingHeap (copyHeap s.heap vs) (s.heap.objs.size + 1) vs) v d as) enc er') hal hk (bound_map hu)
  refine call_function_entry_kw kind_sorted plain_sorted entry_sorted (args_sorted1 _) ?_
  unfold Builtin.«sorted»
  refine wpAny_bind (m := checkCount "sorted" 1 1 _) (wpAny_pure ?_)
  refine wpAny_bind (collect_tup hl ?_ hLv)
  refine wpAny_bind (wpAny_newList ?_ hLv)
  have hsz : ((s.heap.push (seqObj "list" #[] 0)).update s.heap.objs.size (Obj.mapSeq (· ++ vs.toArray))).objs.size = s.heap.objs.size + 1 := by
    rw [Heap.size_update, size_push']
  show wpAny _ _ _ _ _ { s with heap := copyHeap s.heap vs }
  rw [hsz]
  refine wpAny_bind (wpAny_holding (wpAny_call_entry_kw slot_list_sort ⟨_, copyHeap_at s.heap vs, rfl⟩ entry_list_sort ?body (args_list_sort _)))
  case body =>
    show wpAny (model prog w) A.in1.in1 (Builtin.«list.sort» ⟨[.ref (s.heap.objs.size + 1)], []⟩) _ _ _
    refine wpAny_mono (list_sort_vals (s := { s with heap := copyHeap s.heap vs }) (P := fun f s' => f = .done (.ret .none) ∧ Q (.ref (s.heap.objs.size + 1)) s') (copyHeap_at s.heap vs) S hLv ⟨rfl, h _ (by rw [sortVals_length false rfl]; exact e.length) (sortVals_data false e er' hal)⟩) (fun f s' hf => ?_) fun _ _ e => e
    obtain ⟨rfl, hq⟩ := hf
    exact ⟨_, rfl, wpAny_pure ⟨_, rfl, hq⟩⟩
end

def dSortA (x : PyData) : Option PyData := match x with
  | .tuple ds => if sOk ds = true then some (.list (sortD ds)) else none
  | x => dSort x
section
variable {X : Cx}
theorem c_sortedA (hu : X.A.units + 64 < cLine) : C1N X (.builtin "sorted") dSortA := by
  intro pins s σ H xs us Q I r h
  obtain ⟨x, rfl, F, d, z, hF, hx, ez, q⟩ := h
  unfold dSortA at ez
  split at ez
  · split at ez
    · rename_i ds hs
      cases ez
      obtain ⟨h1, h2, h3, h4, h5, h6⟩ := sOk_of hs
      obtain ⟨a, ys, rfl, hq, t⟩ := hx.sqT
      obtain ⟨its, rv, hl, _⟩ := I.tuple hq
      rw [Vals.ref1 r]
      refine sorted_tup (enc := id) hl (each_den t rv) (each_reads I t rv h2) h4 h5 (lim_line h6) (fun b hb => by have := depth_at hb; show X.A.units + 2 + b.depth < cLine; omega) fun out ho he => ?_
      rw [← sortD_eq] at he
      obtain ⟨zs, rz, dz⟩ := den_each he
      obtain ⟨c, hc⟩ := sortedAll_at s.heap its out.toArray
      have hz : zs.length = ds.length := by rw [rz.length, ho]
      have fr : H (s.heap.objs.size + 1) = none := I.hok.fresh (Nat.le_succ _)
      have ex := ext_new (o := .lst zs) fr
      exact ⟨.ref (s.heap.objs.size + 1), upd H (s.heap.objs.size + 1) (.lst zs), I.laid (t' := s.toks) (fun b o e => sortedAll_old e) (Nat.le_succ _) ⟨by rw [hz]; exact lim_line h6, out, c, rz, hc⟩, rfl, q _ _ ex fr (.lst upd_same (denAll_new ex fr dz))⟩
    · cases ez
  · exact c_sorted hu pins s σ H _ us Q I r ⟨x, rfl, F, d, z, hF, hx, ez, q⟩
end
end EV
namespace EV
open PySem PySem.Spec PyProof.Rows L2

/-! ### a, b = x, y through a tuple: names that are captured -/
section
variable {P : Program} {w : World} {K : PySem.W.Frag} {A B1 B2 B3 : Fb} {σ : L2.St} {H H1 H2 H3 : Hp} {ρ ρ1 ρ2 ρ3 : Rho} {v1 v2 v3 : V} {s1 s2 s3 : Slot} {i j l : Nat} {J : List Nat}
theorem NPost.ext {H' : Hp} (n : NPost P w K A σ H ρ H1 ρ1 v1 s1 B1) (ex : Ext H1 H') : NPost P w K A σ H ρ H' ρ1 v1 s1 B1 :=
  ⟨n.rs.ext ex, n.pe.trans (Pe.ext ex), n.val.step (fun a o q _ => ex a o q) (fun _ _ _ n => n) (fun a o _ q => ex a o q), n.new⟩
theorem par2_core (R : RS P w K A σ H ρ) (n1 : NPost P w K A σ H ρ H1 ρ1 v1 s1 B1) (n2 : NPost P w K B1 σ H1 ρ1 H2 ρ2 v2 s2 B2) :
    RS P w K A ((σ.set j (some v2)).set i (some v1)) H2 ((ρ2.set j s2).set i s1) ∧ Stp (Rt σ ρ) (Rt ((σ.set j (some v2)).set i (some v1)) ((ρ2.set j s2).set i s1)) H H2 := by
  have w1 : SlotVal P w K B1 (FbS B2 σ ρ2) H2 v1 A s1 := n1.val.step (fun a o q n => n2.pe.keep a o q fun z => n (.inr z)) (fun a o q n z => z.elim (fun z => (n2.new a z).elim (fun z => n (.inl z)) fun z => by rw [q] at z; cases z) fun z => n (.inr (n2.pe.sub a z)))
    (fun a o z q => n2.pe.keep a o q (n1.rs.noroot a z))
  obtain ⟨R2, sub2⟩ := n2.rs.stored n2.val (i := j)
  obtain ⟨R3, sub3⟩ := R2.stored (w1.step (fun _ _ q _ => q) (fun x _ _ n z => n (sub2 x z)) fun _ _ _ q => q) (i := i)
  exact ⟨R3, stp_of R (n1.pe.trans n2.pe) (fun x z => (n2.new x z).elim (fun z => n1.new x z) fun z => .inr (back n1.pe z)) (fun x z => sub2 x (sub3 x z)) R3.noroot⟩
theorem par3_core (R : RS P w K A σ H ρ) (n1 : NPost P w K A σ H ρ H1 ρ1 v1 s1 B1) (n2 : NPost P w K B1 σ H1 ρ1 H2 ρ2 v2 s2 B2) (n3 : NPost P w K B2 σ H2 ρ2 H3 ρ3 v3 s3 B3) :
    RS P w K A (((σ.set l (some v3)).set j (some v2)).set i (some v1)) H3 (((ρ3.set l s3).set j s2).set i s1) ∧ Stp (Rt σ ρ) (Rt (((σ.set l (some v3)).set j (some v2)).set i (some v1)) (((ρ3.set l s3).set j s2).set i s1)) H H3 := by
  have w1 : SlotVal P w K B1 (FbS B2 σ ρ2) H2 v1 A s1 := n1.val.step (fun a o q n => n2.pe.keep a o q fun z => n (.inr z)) (fun a o q n z => z.elim (fun z => (n2.new a z).elim (fun z => n (.inl z)) fun z => by rw [q] at z; cases z) fun z => n (.inr (n2.pe.sub a z)))
    (fun a o z q => n2.pe.keep a o q (n1.rs.noroot a z))
  have up : ∀ x, B1 x → B2 x := fun x z => by
    cases s2 with
    | un => exact n2.val.elim
    | sh d => rw [n2.val.1]; exact z
    | ow d =>
      obtain ⟨a, _, e, _⟩ := n2.val
      rw [e]
      exact .inl z
  have w1' : SlotVal P w K B1 (FbS B3 σ ρ3) H3 v1 A s1 := w1.step (fun a o q n => n3.pe.keep a o q fun z => n (.inr z)) (fun a o q n z => z.elim (fun z => (n3.new a z).elim (fun z => n (.inl z)) fun z => by rw [q] at z; cases z) fun z => n (.inr (n3.pe.sub a z)))
    (fun a o z q => n3.pe.keep a o q (n2.rs.noroot a (up a z)))
  have w2 : SlotVal P w K B2 (FbS B3 σ ρ3) H3 v2 B1 s2 := n2.val.step (fun a o q n => n3.pe.keep a o q fun z => n (.inr z)) (fun a o q n z => z.elim (fun z => (n3.new a z).elim (fun z => n (.inl z)) fun z => by rw [q] at z; cases z) fun z => n (.inr (n3.pe.sub a z)))
    (fun a o z q => n3.pe.keep a o q (n2.rs.noroot a z))
  obtain ⟨R3, sub3⟩ := n3.rs.stored n3.val (i := l)
  obtain ⟨R2, sub2⟩ := R3.stored (w2.step (fun _ _ q _ => q) (fun x _ _ n z => n (sub3 x z)) fun _ _ _ q => q) (i := j)
  obtain ⟨R1, sub1⟩ := R2.stored (w1'.step (fun _ _ q _ => q) (fun x _ _ n z => n (sub3 x (sub2 x z))) fun _ _ _ q => q) (i := i)
  exact ⟨R1, stp_of R ((n1.pe.trans n2.pe).trans n3.pe) (fun x z => (n3.new x z).elim (fun z => (n2.new x z).elim (fun z => n1.new x z) fun z => .inr (back n1.pe z)) fun z => .inr (back (n1.pe.trans n2.pe) z)) (fun x z => sub3 x (sub2 x (sub1 x z))) R1.noroot⟩
variable {ta tb tc : TE} {nf ng nh : NF}
theorem svR_un2 (h1 : NvR P w K ta nf) (h2 : NvR P w K tb ng) (hij : i ≠ j) (hJ : J.contains i = false) (hJ2 : J.contains j = false) :
    SvR P w K J (tAsg (tTup (tCons ta (tCons tb tNil))) (gTup K 2 (gCons (gName i) (gCons (gName j) gNil)))) (sPar i j nf ng) := fun A σ H ρ fl ρ' D R e k => by
  unfold sPar at e
  obtain ⟨⟨s1, ρ1⟩, e1, e⟩ := Option.bind_eq_some_iff.mp e
  obtain ⟨⟨s2, ρ2⟩, e2, e⟩ := Option.map_eq_some_iff.mp e
  cases e
  refine h1 A σ H ρ s1 ρ1 _ R e1 fun v1 H1 B1 n1 => h2 B1 σ H1 ρ1 s2 ρ2 _ n1.rs e2 fun v2 H2 B2 n2 => ⟨by show 2 ≤ sizeLine; exact le_line (by decide), fun p hp => ?_⟩
  have ex := ext_new (o := .tup [v1, v2]) hp
  obtain ⟨Rf, Sf⟩ := par2_core (i := i) (j := j) R n1 (n2.ext ex)
  refine ⟨p, [v1, v2], rfl, .inl (.inl upd_same), rfl, v1, [v2], rfl, v2, [], rfl, rfl, ?_⟩
  have e3 : (σ.set i (some v1)).set j (some v2) = (σ.set j (some v2)).set i (some v1) := List.set_comm _ _ hij
  rw [e3]
  exact k _ _ Rf Sf ((Agr.set hJ2).trans (Agr.set hJ))
theorem svR_un3 (h1 : NvR P w K ta nf) (h2 : NvR P w K tb ng) (h3 : NvR P w K tc nh) (hij : i ≠ j) (hil : i ≠ l) (hjl : j ≠ l) (hJ : J.contains i = false) (hJ2 : J.contains j = false) (hJ3 : J.contains l = false) :
    SvR P w K J (tAsg (tTup (tCons ta (tCons tb (tCons tc tNil)))) (gTup K 3 (gCons (gName i) (gCons (gName j) (gCons (gName l) gNil))))) (sPar3 i j l nf ng nh) := fun A σ H ρ fl ρ' D R e k => by
  unfold sPar3 at e
  obtain ⟨⟨s1, ρ1⟩, e1, e⟩ := Option.bind_eq_some_iff.mp e
  obtain ⟨⟨s2, ρ2⟩, e2, e⟩ := Option.bind_eq_some_iff.mp e
  obtain ⟨⟨s3, ρ3⟩, e3, e⟩ := Option.map_eq_some_iff.mp e
  cases e
  refine h1 A σ H ρ s1 ρ1 _ R e1 fun v1 H1 B1 n1 => h2 B1 σ H1 ρ1 s2 ρ2 _ n1.rs e2 fun v2 H2 B2 n2 => h3 B2 σ H2 ρ2 s3 ρ3 _ n2.rs e3 fun v3 H3 B3 n3 => ⟨by show 3 ≤ sizeLine; exact le_line (by decide), fun p hp => ?_⟩
  have ex := ext_new (o := .tup [v1, v2, v3]) hp
  obtain ⟨Rf, Sf⟩ := par3_core (i := i) (j := j) (l := l) R n1 n2 (n3.ext ex)
  refine ⟨p, [v1, v2, v3], rfl, .inl (.inl upd_same), rfl, v1, [v2, v3], rfl, v2, [v3], rfl, v3, [], rfl, rfl, ?_⟩
  have e4 : (((σ.set i (some v1)).set j (some v2)).set l (some v3)) = ((σ.set l (some v3)).set j (some v2)).set i (some v1) := by
    rw [List.set_comm _ _ hij, List.set_comm _ _ hil, List.set_comm _ _ hjl]
  rw [e4]
  exact k _ _ Rf Sf (((Agr.set hJ3).trans (Agr.set hJ2)).trans (Agr.set hJ))
end
section
variable {X : Cx} {a b c : Expr} {x y z : Str} {px py pz pt pt2 pos : Pos} {k k2 : Nat} {nf ng nh : NF} {J : List Nat}
theorem sv_un2 (i j : Nat) (hN : X.N.Nodup) (h1 : NV X a nf) (h2 : NV X b ng) (hc : X.calm = true := by rfl) (hi : X.N[i]? = some x := by rfl) (hj : X.N[j]? = some y := by rfl) (hij : i ≠ j := by decide) (hJ : J.contains i = false := by rfl) (hJ2 : J.contains j = false := by rfl)
    (hx : Loc X.env.scope x := by first | exact .inl rfl | exact .inr rfl) (hy : Loc X.env.scope y := by first | exact .inl rfl | exact .inr rfl)
    (fx : X.fn x = true ∨ X.env.scope.names.lookup x = some .local := by first | exact .inl rfl | exact .inr rfl) (fy : X.fn y = true ∨ X.env.scope.names.lookup y = some .local := by first | exact .inl rfl | exact .inr rfl)
    (hs1 : starEach [a, b] X.env = (false, eval a X.env) :: starEach [b] X.env := by rfl) (hs2 : starEach [b] X.env = (false, eval b X.env) :: starEach [] X.env := by rfl)
    (g1 : (assignEach [.Name x px, .Name y py] X.env).map (·.2) = assign (.Name x px) X.env :: (assignEach [.Name y py] X.env).map (·.2) := by rfl) (g2 : (assignEach [.Name y py] X.env).map (·.2) = assign (.Name y py) X.env :: (assignEach [] X.env).map (·.2) := by rfl)
    (hn : (assignEach [.Name x px, .Name y py] X.env).length = 2 := by rfl) (hst : (assignEach [.Name x px, .Name y py] X.env).findIdx? (·.1) = none := by rfl)
    (hs : swapsWithSole [.Tuple [.Name x px, .Name y py] k pt] (.Tuple [a, b] k2 pt2) pos.line X.env = pure false := by rfl) (hw : swappedStores [.Tuple [.Name x px, .Name y py] k pt] (.Tuple [a, b] k2 pt2) X.env = pure none := by rfl)
    (hh : (assignEach [.Tuple [.Name x px, .Name y py] k pt] X.env).map (·.2) = [assign (.Tuple [.Name x px, .Name y py] k pt) X.env] := by rfl) :
    SV X J (.Assign [.Tuple [.Name x px, .Name y py] k pt] (.Tuple [a, b] k2 pt2) pos) (sPar i j nf ng) := let ⟨_, a1, a2⟩ := h1; let ⟨_, b1, b2⟩ := h2;
  ⟨_, ps_asg (pe_tup (pa_cons a1 (pa_cons b1 pa_nil hs2) hs1)) (pg_tup hc (pgs_cons (pg_name hN hi hx fx) (pgs_cons (pg_name hN hj hy fy) pgs_nil g2) g1) hn hst) hs hw hh, svR_un2 a2 b2 hij hJ hJ2⟩
theorem sv_un3 (i j l : Nat) (hN : X.N.Nodup) (h1 : NV X a nf) (h2 : NV X b ng) (h3 : NV X c nh) (hc : X.calm = true := by rfl) (hi : X.N[i]? = some x := by rfl) (hj : X.N[j]? = some y := by rfl) (hl : X.N[l]? = some z := by rfl) (hij : i ≠ j := by decide) (hil : i ≠ l := by decide) (hjl : j ≠ l := by decide)
    (hJ : J.contains i = false := by rfl) (hJ2 : J.contains j = false := by rfl) (hJ3 : J.contains l = false := by rfl)
    (hx : Loc X.env.scope x := by first | exact .inl rfl | exact .inr rfl) (hy : Loc X.env.scope y := by first | exact .inl rfl | exact .inr rfl) (hz : Loc X.env.scope z := by first | exact .inl rfl | exact .inr rfl)
    (fx : X.fn x = true ∨ X.env.scope.names.lookup x = some .local := by first | exact .inl rfl | exact .inr rfl) (fy : X.fn y = true ∨ X.env.scope.names.lookup y = some .local := by first | exact .inl rfl | exact .inr rfl) (fz : X.fn z = true ∨ X.env.scope.names.lookup z = some .local := by first | exact .inl rfl | exact .inr rfl)
    (hs1 : starEach [a, b, c] X.env = (false, eval a X.env) :: starEach [b, c] X.env := by rfl) (hs2 : starEach [b, c] X.env = (false, eval b X.env) :: starEach [c] X.env := by rfl) (hs3 : starEach [c] X.env = (false, eval c X.env) :: starEach [] X.env := by rfl)
    (g1 : (assignEach [.Name x px, .Name y py, .Name z pz] X.env).map (·.2) = assign (.Name x px) X.env :: (assignEach [.Name y py, .Name z pz] X.env).map (·.2) := by rfl) (g2 : (assignEach [.Name y py, .Name z pz] X.env).map (·.2) = assign (.Name y py) X.env :: (assignEach [.Name z pz] X.env).map (·.2) := by rfl)
    (g3 : (assignEach [.Name z pz] X.env).map (·.2) = assign (.Name z pz) X.env :: (assignEach [] X.env).map (·.2) := by rfl)
    (hn : (assignEach [.Name x px, .Name y py, .Name z pz] X.env).length = 3 := by rfl) (hst : (assignEach [.Name x px, .Name y py, .Name z pz] X.env).findIdx? (·.1) = none := by rfl)
    (hs : swapsWithSole [.Tuple [.Name x px, .Name y py, .Name z pz] k pt] (.Tuple [a, b, c] k2 pt2) pos.line X.env = pure false := by rfl) (hw : swappedStores [.Tuple [.Name x px, .Name y py, .Name z pz] k pt] (.Tuple [a, b, c] k2 pt2) X.env = pure none := by rfl)
    (hh : (assignEach [.Tuple [.Name x px, .Name y py, .Name z pz] k pt] X.env).map (·.2) = [assign (.Tuple [.Name x px, .Name y py, .Name z pz] k pt) X.env] := by rfl) :
    SV X J (.Assign [.Tuple [.Name x px, .Name y py, .Name z pz] k pt] (.Tuple [a, b, c] k2 pt2) pos) (sPar3 i j l nf ng nh) := let ⟨_, a1, a2⟩ := h1; let ⟨_, b1, b2⟩ := h2; let ⟨_, c1, c2⟩ := h3;
  ⟨_, ps_asg (pe_tup (pa_cons a1 (pa_cons b1 (pa_cons c1 pa_nil hs3) hs2) hs1)) (pg_tup hc (pgs_cons (pg_name hN hi hx fx) (pgs_cons (pg_name hN hj hy fy) (pgs_cons (pg_name hN hl hz fz) pgs_nil g3) g2) g1) hn hst) hs hw hh, svR_un3 a2 b2 c2 hij hil hjl hJ hJ2 hJ3⟩
end
end EV
namespace L_k15
open PySem PySem.Spec PyProof.Rows L2 EV
/-! ### the text -/
def topS (i : Nat) : Stmt := PySem.Challenge.pw_farwheels_k15_whole_known_depths_by_two.main.body.getD i (.Pass ⟨0, 0, 0, 0⟩)
abbrev s_is_number : Stmt := topS 1
abbrev s_is_below : Stmt := topS 2
abbrev s_is_tuple_of : Stmt := topS 3
abbrev s_common : Stmt := topS 4
abbrev s_fraction : Stmt := topS 5
abbrev s_parted : Stmt := topS 6
abbrev s_floor_of : Stmt := topS 7
abbrev s_gap_of : Stmt := topS 9
abbrev s_depths_of : Stmt := topS 10
abbrev s_surely_nearer : Stmt := topS 11
abbrev s_is_pair : Stmt := topS 12
abbrev s_is_match : Stmt := topS 13
abbrev s_best_match : Stmt := topS 14
abbrev s_lost_places : Stmt := topS 15
abbrev s_gaps_of : Stmt := topS 16
abbrev s_jumps : Stmt := topS 17
abbrev s_likeness : Stmt := topS 18
abbrev s_best_gap : Stmt := topS 19
abbrev s__law_draws : Stmt := topS 21
abbrev s__law_next : Stmt := topS 22
abbrev s__law_least : Stmt := topS 23
abbrev s__law_holds : Stmt := topS 24
abbrev s_law : Stmt := topS 25
theorem sc_is_number : FnScope ["thing"] ["thing"] (defScope s_is_number) := ⟨rfl, rfl, rfl, by decide +kernel, rfl, by decide +kernel, by decide +kernel⟩
theorem sc_is_below : FnScope ["thing", "many"] ["thing", "many"] (defScope s_is_below) := ⟨rfl, rfl, rfl, by decide +kernel, rfl, by decide +kernel, by decide +kernel⟩
theorem sc_is_tuple_of : FnScope ["thing", "many"] ["thing", "many"] (defScope s_is_tuple_of) := ⟨rfl, rfl, rfl, by decide +kernel, rfl, by decide +kernel, by decide +kernel⟩
theorem sc_common : FnScope ["a", "b"] ["a", "b"] (defScope s_common) := ⟨rfl, rfl, rfl, by decide +kernel, rfl, by decide +kernel, by decide +kernel⟩
theorem sc_fraction : FnScope ["a", "b", "by"] ["a", "b"] (defScope s_fraction) := ⟨rfl, rfl, rfl, by decide +kernel, rfl, by decide +kernel, by decide +kernel⟩
theorem sc_parted : FnScope ["one", "other"] ["one", "other"] (defScope s_parted) := ⟨rfl, rfl, rfl, by decide +kernel, rfl, by decide +kernel, by decide +kernel⟩
theorem sc_floor_of : FnScope ["one"] ["one"] (defScope s_floor_of) := ⟨rfl, rfl, rfl, by decide +kernel, rfl, by decide +kernel, by decide +kernel⟩
theorem sc_gap_of : FnScope ["base", "focus", "depth"] ["base", "focus", "depth"] (defScope s_gap_of) := ⟨rfl, rfl, rfl, by decide +kernel, rfl, by decide +kernel, by decide +kernel⟩
theorem sc_depths_of : FnScope ["base", "focus", "gap"] ["base", "focus", "gap"] (defScope s_depths_of) := ⟨rfl, rfl, rfl, by decide +kernel, rfl, by decide +kernel, by decide +kernel⟩
theorem sc_surely_nearer : FnScope ["base", "focus", "one", "other"] ["base", "focus", "one", "other"] (defScope s_surely_nearer) := ⟨rfl, rfl, rfl, by decide +kernel, rfl, by decide +kernel, by decide +kernel⟩
theorem sc_is_pair : FnScope ["left", "right", "thing"] ["left", "right", "thing"] (defScope s_is_pair) := ⟨rfl, rfl, rfl, by decide +kernel, rfl, by decide +kernel, by decide +kernel⟩
theorem sc_is_match : FnScope ["left", "right", "match", "one", "other", "pair"] ["left", "right", "match"] (defScope s_is_match) := ⟨rfl, rfl, rfl, by decide +kernel, rfl, by decide +kernel, by decide +kernel⟩
theorem sc_best_match : FnScope ["left", "right", "most", "best", "x", "y", "rows", "less", "match"] ["left", "right", "most"] (defScope s_best_match) := ⟨rfl, rfl, rfl, by decide +kernel, rfl, by decide +kernel, by decide +kernel⟩
theorem sc_lost_places : FnScope ["left", "right", "match", "xs", "ys", "x", "_", "y"] ["left", "right", "match"] (defScope s_lost_places) := ⟨rfl, rfl, rfl, by decide +kernel, rfl, by decide +kernel, by decide +kernel⟩
theorem sc_gaps_of : FnScope ["match", "x", "y"] ["match"] (defScope s_gaps_of) := ⟨rfl, rfl, rfl, by decide +kernel, rfl, by decide +kernel, by decide +kernel⟩
theorem sc_jumps : FnScope ["match", "gaps", "k"] ["match"] (defScope s_jumps) := ⟨rfl, rfl, rfl, by decide +kernel, rfl, by decide +kernel, by decide +kernel⟩
theorem sc_likeness : FnScope ["left", "right", "gap", "able", "x"] ["left", "right", "gap"] (defScope s_likeness) := ⟨rfl, rfl, rfl, by decide +kernel, rfl, by decide +kernel, by decide +kernel⟩
theorem sc_best_gap : FnScope ["left", "right", "most", "gap"] ["left", "right", "most"] (defScope s_best_gap) := ⟨rfl, rfl, rfl, by decide +kernel, rfl, by decide +kernel, by decide +kernel⟩
theorem sc__law_draws : FnScope ["script", "many", "draws", "mixed", "k", "cell", "rest", "turn"] ["script", "many"] (defScope s__law_draws) := ⟨rfl, rfl, rfl, by decide +kernel, rfl, by decide +kernel, by decide +kernel⟩
theorem sc__law_next : FnScope ["w", "many"] ["w", "many"] (defScope s__law_next) := ⟨rfl, rfl, rfl, by decide +kernel, rfl, by decide +kernel, by decide +kernel⟩
theorem sc__law_least : FnScope ["a", "b", "one", "other"] ["a", "b"] (defScope s__law_least) := ⟨rfl, rfl, rfl, by decide +kernel, rfl, by decide +kernel, by decide +kernel⟩
theorem sc__law_holds : FnScope ["w", "base", "focus", "upper", "lower", "depth", "gap", "low", "high", "one", "other", "many", "far", "left", "right", "match", "k"] ["w"] (defScope s__law_holds) := ⟨rfl, rfl, rfl, by decide +kernel, rfl, by decide +kernel, by decide +kernel⟩
theorem sc_law : FnScope ["script", "w", "turn"] ["script"] (defScope s_law) := ⟨rfl, rfl, rfl, by decide +kernel, rfl, by decide +kernel, by decide +kernel⟩
theorem bk_lost_places_0 : blkC ["left", "right", "match", "xs", "ys", "x", "_", "y"] (defScope s_lost_places) { kind := .function, names := [(".0", .local), ("x", .local), ("_", .local)], isGenerator := false, isCoroutine := false, more := [] } [("x", 5), ("_", 6)] = true := by decide +kernel
theorem bk_lost_places_1 : blkC ["left", "right", "match", "xs", "ys", "x", "_", "y"] (defScope s_lost_places) { kind := .function, names := [(".0", .local), ("_", .local), ("y", .local)], isGenerator := false, isCoroutine := false, more := [] } [("_", 6), ("y", 7)] = true := by decide +kernel
theorem bk_lost_places_2 : blkC ["left", "right", "match", "xs", "ys", "x", "_", "y"] (defScope s_lost_places) { kind := .function, names := [(".0", .local), ("x", .local), ("xs", .free)], isGenerator := false, isCoroutine := false, more := [] } [("x", 5)] = true := by decide +kernel
theorem bk_lost_places_3 : blkC ["left", "right", "match", "xs", "ys", "x", "_", "y"] (defScope s_lost_places) { kind := .function, names := [(".0", .local), ("y", .local), ("ys", .free)], isGenerator := false, isCoroutine := false, more := [] } [("y", 7)] = true := by decide +kernel
theorem bk_gaps_of_0 : blkC ["match", "x", "y"] (defScope s_gaps_of) { kind := .function, names := [(".0", .local), ("x", .local), ("y", .local)], isGenerator := false, isCoroutine := false, more := [] } [("x", 1), ("y", 2)] = true := by decide +kernel
theorem bk_likeness_0 : blkC ["left", "right", "gap", "able", "x"] (defScope s_likeness) { kind := .function, names := [(".0", .local), ("x", .local), ("len", .globalImplicit), ("gap", .free), ("right", .free)], isGenerator := false, isCoroutine := false, more := [] } [("x", 4)] = true := by decide +kernel
theorem bk_likeness_1 : blkC ["left", "right", "gap", "able", "x"] (defScope s_likeness) { kind := .function, names := [(".0", .local), ("x", .local), ("gap", .free), ("left", .free), ("right", .free)], isGenerator := false, isCoroutine := false, more := [] } [("x", 4)] = true := by decide +kernel
theorem bk_jumps_0 : blkC ["match", "gaps", "k"] (defScope s_jumps) { kind := .function, names := [(".0", .local), ("k", .local), ("gaps", .free)], isGenerator := false, isCoroutine := false, more := [] } [("k", 2)] = true := by decide +kernel
theorem bk_best_gap_0 : blkC ["left", "right", "most", "gap"] (defScope s_best_gap) { kind := .function, names := [(".0", .local), ("gap", .local), ("likeness", .globalImplicit), ("left", .free), ("right", .free)], isGenerator := false, isCoroutine := false, more := [] } [("gap", 3)] = true := by decide +kernel
theorem bk_is_match_0 : blkC ["left", "right", "match", "one", "other", "pair"] (defScope s_is_match) { kind := .function, names := [(".0", .local), ("pair", .local), ("is_pair", .globalImplicit), ("left", .free), ("right", .free)], isGenerator := false, isCoroutine := false, more := [] } [("pair", 5)] = true := by decide +kernel
theorem bk_is_match_1 : blkC ["left", "right", "match", "one", "other", "pair"] (defScope s_is_match) { kind := .function, names := [(".0", .local), ("one", .local), ("other", .local)], isGenerator := false, isCoroutine := false, more := [] } [("one", 3), ("other", 4)] = true := by decide +kernel
theorem bk__law_holds_0 : blkC ["w", "base", "focus", "upper", "lower", "depth", "gap", "low", "high", "one", "other", "many", "far", "left", "right", "match", "k"] (defScope s__law_holds) { kind := .function, names := [(".0", .local), ("k", .local)], isGenerator := false, isCoroutine := false, more := [] } [("k", 16)] = true := by decide +kernel
theorem bk__law_holds_1 : blkC ["w", "base", "focus", "upper", "lower", "depth", "gap", "low", "high", "one", "other", "many", "far", "left", "right", "match", "k"] (defScope s__law_holds) { kind := .function, names := [(".0", .local), ("k", .local)], isGenerator := false, isCoroutine := false, more := [] } [("k", 16)] = true := by decide +kernel
/-! ### the mirrors -/
def b_is_number : SF := (sRet (eAnd (eUn (dIsA .int) (rVar 0)) (eNot (eUn (dIsA .bool) (rVar 0)))))
def m_is_number : List PyData → Option PyData := runP 1 1 b_is_number
def b_is_tuple_of : SF := (sRet (eAnd (eUn (dIsA .tuple) (rVar 0)) (eOp dEq (eUn dLen (rVar 0)) (rVar 1))))
def m_is_tuple_of : List PyData → Option PyData := runP 2 2 b_is_tuple_of
def b_common : SF := (sSeq (sWhile 100000 (bOf (eOpV dNe 1 (eC (.int 0)))) (sPar 0 1 (nE (eVar 1)) (nE (eOpV dMod 0 (rVar 1))))) (sRet (eUn dAbs (rVar 0))))
def m_common : List PyData → Option PyData := runP 2 2 b_common
def b_floor_of : SF := (sRet (eOp dDiv (eOpV dIx 0 (eC (.int 0))) (eOpV dIx 0 (eC (.int 1)))))
def m_floor_of : List PyData → Option PyData := runP 1 1 b_floor_of
def b_surely_nearer : SF := (sRet (eOpV (dCmp cGt) 2 (rVar 3)))
def m_surely_nearer : List PyData → Option PyData := runP 4 4 b_surely_nearer
def b_best_match : SF := (sSeq (sSet 3 (nN eDict0)) (sSeq (sFor (wRng (aCons (eUn dLen (rVar 0)) (aCons (eUn dNeg (eC (.int 1))) (aCons (eUn dNeg (eC (.int 1))) aNil)))) (gN 4) (sFor (wRng (aCons (eUn dLen (rVar 1)) (aCons (eUn dNeg (eC (.int 1))) (aCons (eUn dNeg (eC (.int 1))) aNil)))) (gN 5) (sSeq (sSet 6 (nN (eLst (aCons (eTup (aCons (eC (.int 0)) (aCons (eTup aNil) aNil))) aNil)))) (sSeq (sIf (bOf (eOpV (dCmp cLt) 4 (eUn dLen (rVar 0)))) (sExp (eMut dApp 6 (eOpV dIx 3 (eTup (aCons (eOpV dAdd 4 (eC (.int 1))) (aCons (eVar 5) aNil)))))) sNx) (sSeq (sIf (bOf (eOpV (dCmp cLt) 5 (eUn dLen (rVar 1)))) (sExp (eMut dApp 6 (eOpV dIx 3 (eTup (aCons (eVar 4) (aCons (eOpV dAdd 5 (eC (.int 1))) aNil)))))) sNx) (sSeq (sIf (bAnd (bOf (eOpV (dCmp cLt) 4 (eUn dLen (rVar 0)))) (bAnd (bOf (eOpV (dCmp cLt) 5 (eUn dLen (rVar 1)))) (bAnd (bOf (eOp dEq (eOpV dIx 0 (rVar 4)) (eOpV dIx 1 (rVar 5)))) (bOf (eChn (dCmp cLe) (dCmp cLe) (eC (.int 0)) (eOpV dSub 4 (rVar 5)) (rVar 2)))))) (sSeq (sAsg (eOpV dIx 3 (eTup (aCons (eOpV dAdd 4 (eC (.int 1))) (aCons (eOpV dAdd 5 (eC (.int 1))) aNil)))) (gT 2 (gsCons (gN 7) (gsCons (gN 8) gsNil)))) (sExp (eMut dApp 6 (eTup (aCons (eOpV dSub 7 (eC (.int 1))) (aCons (eOp dAdd (eTup (aCons (eTup (aCons (eVar 4) (aCons (eVar 5) aNil))) aNil)) (rVar 8)) aNil)))))) sNx) (sAsg (eUn dMin (rVar 6)) (gS 3 (eTup (aCons (eVar 4) (aCons (eVar 5) aNil))))))))))) (sRet (eOp dIx (eOpV dIx 3 (eTup (aCons (eC (.int 0)) (aCons (eC (.int 0)) aNil)))) (eC (.int 1))))))
def m_best_match : List PyData → Option PyData := runP 3 9 b_best_match
def b_lost_places : SF := (sSeq (sPar 3 4 (nE (eLc 8 [5, 6] (wSeq (eVar 2)) (gT 2 (gsCons (gN 5) (gsCons (gN 6) gsNil))) bYes (eVar 5))) (nE (eLc 8 [6, 7] (wSeq (eVar 2)) (gT 2 (gsCons (gN 6) (gsCons (gN 7) gsNil))) bYes (eVar 7)))) (sRet (eTup (aCons (eUn dTuple (eLc 8 [5] (wRng (aCons (eUn dLen (rVar 0)) aNil)) (gN 5) (bOf (eOpV dNotIn 5 (rVar 3))) (eVar 5))) (aCons (eUn dTuple (eLc 8 [7] (wRng (aCons (eUn dLen (rVar 1)) aNil)) (gN 7) (bOf (eOpV dNotIn 7 (rVar 4))) (eVar 7))) aNil)))))
def m_lost_places : List PyData → Option PyData := runP 3 8 b_lost_places
def b_gaps_of : SF := (sRet (eUn dTuple (eLc 3 [1, 2] (wSeq (eVar 0)) (gT 2 (gsCons (gN 1) (gsCons (gN 2) gsNil))) bYes (eOpV dSub 1 (rVar 2)))))
def m_gaps_of : List PyData → Option PyData := runP 1 3 b_gaps_of
def b_likeness : SF := (sSeq (sSet 3 (nE (eLc 5 [4] (wRng (aCons (eVar 2) (aCons (eUn dLen (rVar 0)) aNil))) (gN 4) (bOf (eOp (dCmp cLt) (eOpV dSub 4 (rVar 2)) (eUn dLen (rVar 1)))) (eVar 4)))) (sRet (eUn dLen (eLc 5 [4] (wSeq (eVar 3)) (gN 4) (bOf (eOp dEq (eOpV dIx 0 (rVar 4)) (eOpV dIx 1 (eOpV dSub 4 (rVar 2))))) (eVar 4)))))
def m_likeness : List PyData → Option PyData := runP 3 5 b_likeness
def b__law_draws : SF := (sSeq (sSet 2 (nN (eLst aNil))) (sSeq (sSet 3 (nE (eC (.int 7)))) (sSeq (sFor (wRng (aCons (eUn dLen (rVar 0)) aNil)) (gN 4) (sSeq (sSet 5 (nE (eUn dAbs (eUn dInt (eOpV dIx 0 (rVar 4)))))) (sSeq (sSet 3 (nE (eOp dMod (eUn dInt (eOp dAdd (eOp dAdd (eOpV dMul 3 (eC (.int 48271))) (eOpV dMod 5 (eC (.int 1000003)))) (rVar 4))) (eC (.int 65537))))) (sSeq (sSet 6 (nE (eC (.int 0)))) (sSeq (sIf (bOf (eOpV (dCmp cGe) 5 (eOp dPow (eC (.int 10)) (eC (.int 18))))) (sSet 6 (nE (eVar 5))) (sSeq (sExp (eMut dApp 2 (eOp dMod (eUn dInt (rVar 5)) (eC (.int 997))))) (sExp (eMut dApp 2 (eOp dMod (eOp dMod (eUn dInt (eOp dAdd (eOpV dMul 3 (eC (.int 69621))) (eC (.int 5)))) (eC (.int 65521))) (eC (.int 997))))))) (sFor (wRng (aCons (eC (.int 60)) aNil)) (gN 7) (sIf (bOf (eOpV (dCmp cGt) 6 (eC (.int 0)))) (sSeq (sExp (eMut dApp 2 (eOp dMod (eUn dInt (rVar 6)) (eC (.int 997))))) (sSet 6 (nE (eOpV dDiv 6 (eC (.int 997)))))) sNx))))))) (sSeq (sFor (wRng (aCons (eVar 1) aNil)) (gN 4) (sSeq (sSet 3 (nE (eOp dMod (eUn dInt (eOp dAdd (eOp dAdd (eOpV dMul 3 (eC (.int 16807))) (rVar 4)) (eC (.int 1)))) (eC (.int 65537))))) (sExp (eMut dApp 2 (eOp dMod (eUn dInt (rVar 3)) (eC (.int 997))))))) (sRet (eSlV 2 oNone (oSome (eVar 1))))))))
def m__law_draws : List PyData → Option PyData := runP 2 8 b__law_draws
def b__law_next : SF := (sSeq (sAugS dAddI 0 (eC (.str (Str.ofString "at"))) (eC (.int 1))) (sSeq (sIf (bOf (eOp (dCmp cGt) (eOpV dIx 0 (eC (.str (Str.ofString "at")))) (eUn dLen (eOpV dIx 0 (eC (.str (Str.ofString "draws"))))))) (sRet (eC (.int 0))) sNx) (sRet (eOp dMod (eUn dInt (eOp dIx (eOpV dIx 0 (eC (.str (Str.ofString "draws")))) (eOp dSub (eOpV dIx 0 (eC (.str (Str.ofString "at")))) (eC (.int 1))))) (rVar 1)))))
def m__law_next : PyData → PyData → Option (PyData × PyData) := runI2 2 b__law_next
def b__law_least : SF := (sSeq (sPar 2 3 (nE (eUn dAbs (rVar 0))) (nE (eUn dAbs (rVar 1)))) (sSeq (sWhile 100000 (bOf (eOpV (dCmp cGt) 3 (eC (.int 0)))) (sPar 2 3 (nE (eVar 3)) (nE (eOpV dMod 2 (rVar 3))))) (sSeq (sSet 2 (nE (eIf (bOf (eOpV (dCmp cGt) 1 (eC (.int 0)))) (eVar 2) (eOp dSub (eC (.int 0)) (rVar 2))))) (sRet (eTup (aCons (eOpV dDiv 0 (rVar 2)) (aCons (eOpV dDiv 1 (rVar 2)) aNil)))))))
def m__law_least : List PyData → Option PyData := runP 2 4 b__law_least
def b_is_below : SF := (sRet (eAnd (eCall m_is_number (aCons (eVar 0) aNil)) (eChn (dCmp cLe) (dCmp cLt) (eC (.int 0)) (eVar 0) (rVar 1))))
def m_is_below : List PyData → Option PyData := runP 2 2 b_is_below
def b_fraction : SF := (sSeq (sSet 2 (nE (eCall m_common (aCons (eVar 0) (aCons (eVar 1) aNil))))) (sSeq (sIf (bOf (eOpV (dCmp cLt) 1 (eC (.int 0)))) (sSet 2 (nE (eUn dNeg (rVar 2)))) sNx) (sRet (eTup (aCons (eOpV dDiv 0 (rVar 2)) (aCons (eOpV dDiv 1 (rVar 2)) aNil))))))
def m_fraction : List PyData → Option PyData := runP 2 3 b_fraction
def b_jumps : SF := (sSeq (sSet 1 (nE (eCall m_gaps_of (aCons (eVar 0) aNil)))) (sRet (eUn dTuple (eLc 3 [2] (wRng (aCons (eC (.int 1)) (aCons (eUn dLen (rVar 1)) aNil))) (gN 2) (bOf (eOp dNe (eOpV dIx 1 (rVar 2)) (eOpV dIx 1 (eOpV dSub 2 (eC (.int 1)))))) (eVar 2)))))
def m_jumps : List PyData → Option PyData := runP 1 3 b_jumps
def b_best_gap : SF := (sRet (eOp dIx (eUn dMin (eLc 4 [3] (wRng (aCons (eOpV dAdd 2 (eC (.int 1))) aNil)) (gN 3) bYes (eTup (aCons (eUn dNeg (eCall m_likeness (aCons (eVar 0) (aCons (eVar 1) (aCons (eVar 3) aNil))))) (aCons (eVar 3) aNil))))) (eC (.int 1))))
def m_best_gap : List PyData → Option PyData := runP 3 4 b_best_gap
def b_parted : SF := (sRet (eCall m_fraction (aCons (eOp dMul (eOpV dIx 0 (eC (.int 0))) (eOpV dIx 1 (eC (.int 1)))) (aCons (eOp dMul (eOpV dIx 0 (eC (.int 1))) (eOpV dIx 1 (eC (.int 0)))) aNil))))
def m_parted : List PyData → Option PyData := runP 2 2 b_parted
def b_depths_of : SF := (sRet (eTup (aCons (eCall m_fraction (aCons (eOpV dMul 0 (rVar 1)) (aCons (eOpV dAdd 2 (eC (.int 1))) aNil))) (aCons (eIf (bOf (eOpV (dCmp cGt) 2 (eC (.int 0)))) (eCall m_fraction (aCons (eOpV dMul 0 (rVar 1)) (aCons (eVar 2) aNil))) (eC (.none))) aNil))))
def m_depths_of : List PyData → Option PyData := runP 3 3 b_depths_of
def b_is_pair : SF := (sSeq (sIf (bOr (bNot (bOf (eCall m_is_tuple_of (aCons (eVar 2) (aCons (eC (.int 2)) aNil))))) (bOr (bNot (bOf (eCall m_is_below (aCons (eOpV dIx 2 (eC (.int 0))) (aCons (eUn dLen (rVar 0)) aNil))))) (bNot (bOf (eCall m_is_below (aCons (eOpV dIx 2 (eC (.int 1))) (aCons (eUn dLen (rVar 1)) aNil))))))) (sRet (eC (.bool false))) sNx) (sRet (eAnd (eOp (dCmp cLe) (eOpV dIx 2 (eC (.int 1))) (eOpV dIx 2 (eC (.int 0)))) (eOp dEq (eOpV dIx 0 (eOpV dIx 2 (eC (.int 0)))) (eOpV dIx 1 (eOpV dIx 2 (eC (.int 1))))))))
def m_is_pair : List PyData → Option PyData := runP 3 3 b_is_pair
def b_gap_of : SF := (sRet (eCall m_floor_of (aCons (eCall m_parted (aCons (eTup (aCons (eOpV dMul 0 (rVar 1)) (aCons (eC (.int 1)) aNil))) (aCons (eVar 2) aNil))) aNil)))
def m_gap_of : List PyData → Option PyData := runP 3 3 b_gap_of
def b_is_match : SF := (sSeq (sIf (bOr (bNot (bOf (eUn (dIsA .tuple) (rVar 2)))) (bNot (bOf (eUn dAll (eLc 6 [5] (wSeq (eVar 2)) (gN 5) bYes (eCall m_is_pair (aCons (eVar 0) (aCons (eVar 1) (aCons (eVar 5) aNil))))))))) (sRet (eC (.bool false))) sNx) (sRet (eUn dAll (eLc 6 [3, 4] (wZip (aCons (eVar 2) (aCons (eSlV 2 (oSome (eC (.int 1))) oNone) aNil))) (gT 2 (gsCons (gN 3) (gsCons (gN 4) gsNil))) bYes (eAnd (eOp (dCmp cLt) (eOpV dIx 3 (eC (.int 0))) (eOpV dIx 4 (eC (.int 0)))) (eOp (dCmp cLt) (eOpV dIx 3 (eC (.int 1))) (eOpV dIx 4 (eC (.int 1)))))))))
def m_is_match : List PyData → Option PyData := runP 3 6 b_is_match
def b__law_holds : SF := (sSeq (sPar 1 2 (nE (eOp dAdd (eC (.int 1)) (eI2 m__law_next 0 (eC (.int 20))))) (nE (eOp dAdd (eC (.int 1)) (eI2 m__law_next 0 (eC (.int 30)))))) (sSeq (sPar 3 4 (nE (eOp dAdd (eC (.int 1)) (eI2 m__law_next 0 (eC (.int 90))))) (nE (eOp dAdd (eC (.int 1)) (eI2 m__law_next 0 (eC (.int 9)))))) (sSeq (sSet 5 (nE (eCall m__law_least (aCons (eVar 3) (aCons (eVar 4) aNil))))) (sSeq (sSet 6 (nE (eOp dDiv (eOp dMul (eOpV dMul 1 (rVar 2)) (eOpV dIx 5 (eC (.int 1)))) (eOpV dIx 5 (eC (.int 0)))))) (sSeq (sIf (bOf (eOp dNe (eCall m_gap_of (aCons (eVar 1) (aCons (eVar 2) (aCons (eVar 5) aNil)))) (rVar 6))) (sRet (eC (.bool false))) sNx) (sSeq (sSet 7 (nE (eCall m__law_least (aCons (eOpV dMul 1 (rVar 2)) (aCons (eOpV dAdd 6 (eC (.int 1))) aNil))))) (sSeq (sSet 8 (nE (eIf (bOf (eOpV (dCmp cGt) 6 (eC (.int 0)))) (eCall m__law_least (aCons (eOpV dMul 1 (rVar 2)) (aCons (eVar 6) aNil))) (eC (.none))))) (sSeq (sIf (bOr (bOf (eOp dNe (eCall m_depths_of (aCons (eVar 1) (aCons (eVar 2) (aCons (eVar 6) aNil)))) (eTup (aCons (eVar 7) (aCons (eVar 8) aNil))))) (bOf (eOp (dCmp cGe) (eOp dMul (eOpV dIx 7 (eC (.int 0))) (eOpV dIx 5 (eC (.int 1)))) (eOp dMul (eOpV dIx 5 (eC (.int 0))) (eOpV dIx 7 (eC (.int 1))))))) (sRet (eC (.bool false))) sNx) (sSeq (sPar 9 10 (nE (eI2 m__law_next 0 (eC (.int 9)))) (nE (eI2 m__law_next 0 (eC (.int 9))))) (sSeq (sIf (bOf (eOp dNe (eCall m_surely_nearer (aCons (eVar 1) (aCons (eVar 2) (aCons (eVar 9) (aCons (eVar 10) aNil))))) (eOpV (dCmp cGt) 9 (rVar 10)))) (sRet (eC (.bool false))) sNx) (sSeq (sPar 11 12 (nE (eOp dAdd (eC (.int 1)) (eI2 m__law_next 0 (eC (.int 8))))) (nE (eI2 m__law_next 0 (eC (.int 4))))) (sSeq (sSet 13 (nE (eTR (aCons (eVar 11) aNil)))) (sSeq (sSet 14 (nE (eOp dAdd (eSlV 13 (oSome (eOp dMin2 (eVar 12) (rVar 11))) oNone) (eUn dTuple (eLc 17 [16] (wRng (aCons (eOp dMin2 (eVar 12) (rVar 11)) aNil)) (gN 16) bYes (eOp dAdd (eC (.int 50)) (rVar 16))))))) (sSeq (sSet 15 (nE (eCall m_best_match (aCons (eVar 13) (aCons (eVar 14) (aCons (eVar 12) aNil)))))) (sSeq (sIf (bOr (bOf (eOp dNe (eUn dLen (rVar 15)) (eOp dMax2 (eC (.int 0)) (eOpV dSub 11 (rVar 12))))) (bOr (bOf (eOp dIsNot (eCall m_is_match (aCons (eVar 13) (aCons (eVar 14) (aCons (eVar 15) aNil)))) (eC (.bool true)))) (bOr (bOf (eOp dNe (eCall m_gaps_of (aCons (eVar 15) aNil)) (eOp dMul (eTup (aCons (eVar 12) aNil)) (eUn dLen (rVar 15))))) (bOf (eOp dNe (eCall m_jumps (aCons (eVar 15) aNil)) (eTup aNil)))))) (sRet (eC (.bool false))) sNx) (sRet (eAnd (eOp dEq (eCall m_likeness (aCons (eVar 13) (aCons (eVar 14) (aCons (eVar 12) aNil)))) (eOp dMax2 (eC (.int 0)) (eOpV dSub 11 (rVar 12)))) (eAnd (eOr (eOpV (dCmp cLe) 11 (rVar 12)) (eOp dEq (eCall m_best_gap (aCons (eVar 13) (aCons (eVar 14) (aCons (eC (.int 9)) aNil)))) (rVar 12))) (eOp dEq (eCall m_lost_places (aCons (eVar 13) (aCons (eVar 13) (aCons (eUn dTuple (eLc 17 [16] (wRng (aCons (eVar 11) aNil)) (gN 16) bYes (eTup (aCons (eVar 16) (aCons (eVar 16) aNil))))) aNil)))) (eTup (aCons (eTup aNil) (aCons (eTup aNil) aNil))))))))))))))))))))))
def m__law_holds : PyData → Option (PyData × PyData) := runI1 17 b__law_holds
def b_law : SF := (sSeq (sSet 1 (nN (eDict (pCons (eC (.str (Str.ofString "draws"))) (eCall m__law_draws (aCons (eVar 0) (aCons (eC (.int 200)) aNil))) (pCons (eC (.str (Str.ofString "at"))) (eC (.int 0)) pNil))))) (sSeq (sFor (wRng (aCons (eC (.int 4)) aNil)) (gN 2) (sIf (bNot (bOf (eI1 m__law_holds 1))) (sRet (eC (.bool false))) sNx)) (sRet (eC (.bool true)))))
def m_law : List PyData → Option PyData := runP 1 3 b_law
/-! ### what has been written -/
structure Fx (P : Program) (w : World) (K : PySem.W.Frag) (mg : Str → Option Value) (base : Heap) where
  a_is_number : Addr
  e_is_number : FuncData
  f_is_number : Fun K "is_number" "is_number" s_is_number a_is_number e_is_number
  b_is_number : Binds K e_is_number ["thing"] []
  g_is_number : mg "is_number" = some (.ref a_is_number)
  a_is_below : Addr
  e_is_below : FuncData
  f_is_below : Fun K "is_below" "is_below" s_is_below a_is_below e_is_below
  b_is_below : Binds K e_is_below ["thing", "many"] []
  g_is_below : mg "is_below" = some (.ref a_is_below)
  a_is_tuple_of : Addr
  e_is_tuple_of : FuncData
  f_is_tuple_of : Fun K "is_tuple_of" "is_tuple_of" s_is_tuple_of a_is_tuple_of e_is_tuple_of
  b_is_tuple_of : Binds K e_is_tuple_of ["thing", "many"] []
  g_is_tuple_of : mg "is_tuple_of" = some (.ref a_is_tuple_of)
  a_common : Addr
  e_common : FuncData
  f_common : Fun K "common" "common" s_common a_common e_common
  b_common : Binds K e_common ["a", "b"] []
  g_common : mg "common" = some (.ref a_common)
  a_fraction : Addr
  e_fraction : FuncData
  f_fraction : Fun K "fraction" "fraction" s_fraction a_fraction e_fraction
  b_fraction : Binds K e_fraction ["a", "b"] []
  g_fraction : mg "fraction" = some (.ref a_fraction)
  a_parted : Addr
  e_parted : FuncData
  f_parted : Fun K "parted" "parted" s_parted a_parted e_parted
  b_parted : Binds K e_parted ["one", "other"] []
  g_parted : mg "parted" = some (.ref a_parted)
  a_floor_of : Addr
  e_floor_of : FuncData
  f_floor_of : Fun K "floor_of" "floor_of" s_floor_of a_floor_of e_floor_of
  b_floor_of : Binds K e_floor_of ["one"] []
  g_floor_of : mg "floor_of" = some (.ref a_floor_of)
  a_gap_of : Addr
  e_gap_of : FuncData
  f_gap_of : Fun K "gap_of" "gap_of" s_gap_of a_gap_of e_gap_of
  b_gap_of : Binds K e_gap_of ["base", "focus", "depth"] []
  g_gap_of : mg "gap_of" = some (.ref a_gap_of)
  a_depths_of : Addr
  e_depths_of : FuncData
  f_depths_of : Fun K "depths_of" "depths_of" s_depths_of a_depths_of e_depths_of
  b_depths_of : Binds K e_depths_of ["base", "focus", "gap"] []
  g_depths_of : mg "depths_of" = some (.ref a_depths_of)
  a_surely_nearer : Addr
  e_surely_nearer : FuncData
  f_surely_nearer : Fun K "surely_nearer" "surely_nearer" s_surely_nearer a_surely_nearer e_surely_nearer
  b_surely_nearer : Binds K e_surely_nearer ["base", "focus", "one", "other"] []
  g_surely_nearer : mg "surely_nearer" = some (.ref a_surely_nearer)
  a_is_pair : Addr
  e_is_pair : FuncData
  f_is_pair : Fun K "is_pair" "is_pair" s_is_pair a_is_pair e_is_pair
  b_is_pair : Binds K e_is_pair ["left", "right", "thing"] []
  g_is_pair : mg "is_pair" = some (.ref a_is_pair)
  a_is_match : Addr
  e_is_match : FuncData
  f_is_match : Fun K "is_match" "is_match" s_is_match a_is_match e_is_match
  b_is_match : Binds K e_is_match ["left", "right", "match"] []
  g_is_match : mg "is_match" = some (.ref a_is_match)
  a_best_match : Addr
  e_best_match : FuncData
  f_best_match : Fun K "best_match" "best_match" s_best_match a_best_match e_best_match
  b_best_match : Binds K e_best_match ["left", "right", "most"] []
  g_best_match : mg "best_match" = some (.ref a_best_match)
  a_lost_places : Addr
  e_lost_places : FuncData
  f_lost_places : Fun K "lost_places" "lost_places" s_lost_places a_lost_places e_lost_places
  b_lost_places : Binds K e_lost_places ["left", "right", "match"] []
  g_lost_places : mg "lost_places" = some (.ref a_lost_places)
  a_gaps_of : Addr
  e_gaps_of : FuncData
  f_gaps_of : Fun K "gaps_of" "gaps_of" s_gaps_of a_gaps_of e_gaps_of
  b_gaps_of : Binds K e_gaps_of ["match"] []
  g_gaps_of : mg "gaps_of" = some (.ref a_gaps_of)
  a_jumps : Addr
  e_jumps : FuncData
  f_jumps : Fun K "jumps" "jumps" s_jumps a_jumps e_jumps
  b_jumps : Binds K e_jumps ["match"] []
  g_jumps : mg "jumps" = some (.ref a_jumps)
  a_likeness : Addr
  e_likeness : FuncData
  f_likeness : Fun K "likeness" "likeness" s_likeness a_likeness e_likeness
  b_likeness : Binds K e_likeness ["left", "right", "gap"] []
  g_likeness : mg "likeness" = some (.ref a_likeness)
  a_best_gap : Addr
  e_best_gap : FuncData
  f_best_gap : Fun K "best_gap" "best_gap" s_best_gap a_best_gap e_best_gap
  b_best_gap : Binds K e_best_gap ["left", "right", "most"] []
  g_best_gap : mg "best_gap" = some (.ref a_best_gap)
  a__law_draws : Addr
  e__law_draws : FuncData
  f__law_draws : Fun K "_law_draws" "_law_draws" s__law_draws a__law_draws e__law_draws
  b__law_draws : Binds K e__law_draws ["script", "many"] []
  g__law_draws : mg "_law_draws" = some (.ref a__law_draws)
  a__law_next : Addr
  e__law_next : FuncData
  f__law_next : Fun K "_law_next" "_law_next" s__law_next a__law_next e__law_next
  b__law_next : Binds K e__law_next ["w", "many"] []
  g__law_next : mg "_law_next" = some (.ref a__law_next)
  a__law_least : Addr
  e__law_least : FuncData
  f__law_least : Fun K "_law_least" "_law_least" s__law_least a__law_least e__law_least
  b__law_least : Binds K e__law_least ["a", "b"] []
  g__law_least : mg "_law_least" = some (.ref a__law_least)
  a__law_holds : Addr
  e__law_holds : FuncData
  f__law_holds : Fun K "_law_holds" "_law_holds" s__law_holds a__law_holds e__law_holds
  b__law_holds : Binds K e__law_holds ["w"] []
  g__law_holds : mg "_law_holds" = some (.ref a__law_holds)
  a_law : Addr
  e_law : FuncData
  f_law : Fun K "law" "law" s_law a_law e_law
  b_law : Binds K e_law ["script"] []
  g_law : mg "law" = some (.ref a_law)
  z_abs : mg "abs" = none
  z_all : mg "all" = none
  z_bool : mg "bool" = none
  z_int : mg "int" = none
  z_isinstance : mg "isinstance" = none
  z_len : mg "len" = none
  z_max : mg "max" = none
  z_min : mg "min" = none
  z_range : mg "range" = none
  z_tuple : mg "tuple" = none
  z_zip : mg "zip" = none
section
variable {P : Program} {w : World} {K : PySem.W.Frag} {mg : Str → Option Value} {base : Heap}
theorem ok_is_number {k : Nat} (X : Fx P w K mg base) : FnOk P w K mg base CX0 (k + 1) X.a_is_number X.e_is_number ["thing"] (spP P w K 1 m_is_number) :=
  mk_pure (k := k + 0) b_is_number X.f_is_number sc_is_number rfl rfl fun cdv A outer s H E hr =>
    (sv_one (sv_ret (ev_and (ev_isi .int X.z_isinstance X.z_int (ex_var 0)) (ev_one (ev_not (ev_isi .bool X.z_isinstance X.z_bool (ex_var 0)))))))
theorem ok_is_tuple_of {k : Nat} (X : Fx P w K mg base) : FnOk P w K mg base CX0 (k + 1) X.a_is_tuple_of X.e_is_tuple_of ["thing", "many"] (spP P w K 2 m_is_tuple_of) :=
  mk_pure (k := k + 0) b_is_tuple_of X.f_is_tuple_of sc_is_tuple_of rfl rfl fun cdv A outer s H E hr =>
    (sv_one (sv_ret (ev_and (ev_isi .tuple X.z_isinstance X.z_tuple (ex_var 0)) (ev_one (ev_cmp (op_eqD' hr.units) (ev_c1 c_len X.z_len (ex_var 0)) (ex_var 1))))))
theorem ok_common {k : Nat} (X : Fx P w K mg base) : FnOk P w K mg base CX0 (k + 1) X.a_common X.e_common ["a", "b"] (spP P w K 2 m_common) :=
  mk_pure (k := k + 0) b_common X.f_common sc_common rfl rfl fun cdv A outer s H E hr =>
    (sv_cons (sv_while 100000 (tv_cmpV 1 (op_neD' hr.units) (EV.x ev_int)) (sv_one (sv_par 0 1 sc_common.nd (nv_e (ev_var 1)) (nv_e (ev_binV 0 op_modD (ex_var 1))))))
    (sv_one (sv_ret (ev_c1 c_abs X.z_abs (ex_var 0)))))
theorem ok_floor_of {k : Nat} (X : Fx P w K mg base) : FnOk P w K mg base CX0 (k + 1) X.a_floor_of X.e_floor_of ["one"] (spP P w K 1 m_floor_of) :=
  mk_pure (k := k + 0) b_floor_of X.f_floor_of sc_floor_of rfl rfl fun cdv A outer s H E hr =>
    (sv_one (sv_ret (ev_bin op_divD (ev_ixV 0 (ix_all hr.units) (EV.x ev_int)) (EV.x (ev_ixV 0 (ix_all hr.units) (EV.x ev_int))))))
theorem ok_surely_nearer {k : Nat} (X : Fx P w K mg base) : FnOk P w K mg base CX0 (k + 1) X.a_surely_nearer X.e_surely_nearer ["base", "focus", "one", "other"] (spP P w K 4 m_surely_nearer) :=
  mk_pure (k := k + 0) b_surely_nearer X.f_surely_nearer sc_surely_nearer rfl rfl fun cdv A outer s H E hr =>
    (sv_one (sv_ret (ev_cmpV 2 op_gtD (ex_var 3))))
theorem ok_best_match {k : Nat} (X : Fx P w K mg base) : FnOk P w K mg base CX0 (k + 1) X.a_best_match X.e_best_match ["left", "right", "most"] (spP P w K 3 m_best_match) :=
  mk_pure (k := k + 0) b_best_match X.f_best_match sc_best_match rfl rfl fun cdv A outer s H E hr =>
    (sv_cons (sv_set 3 sc_best_match.nd (nv_n en_dict0))
    (sv_cons (sv_for (iv_r3 X.z_range (av_cons (ev_c1 c_len X.z_len (ex_var 0)) (av_cons (ev_un un_negD (EV.x ev_int)) (av_cons (ev_un un_negD (EV.x ev_int)) av_nil)))) (gv_n 4 sc_best_match.nd) (sv_one (sv_for (iv_r3 X.z_range (av_cons (ev_c1 c_len X.z_len (ex_var 1)) (av_cons (ev_un un_negD (EV.x ev_int)) (av_cons (ev_un un_negD (EV.x ev_int)) av_nil)))) (gv_n 5 sc_best_match.nd) (sv_cons (sv_set 6 sc_best_match.nd (nv_n (en_lst (av_cons (ev_tup (av_cons ev_int (av_cons (ev_tup av_nil) av_nil))) av_nil))))
    (sv_cons (sv_if (tv_cmpV 4 op_ltD (EV.x (ev_c1 c_len X.z_len (ex_var 0)))) (sv_one (sv_exp (ev_mut 6 PySem.F.slot_list_append PySem.F.type_list_append mt_app (ev_ixV 3 (ix_all hr.units) (EV.x (ev_tup (av_cons (ev_binV 4 op_addD (EV.x ev_int)) (av_cons (ev_var 5) av_nil)))))))) sv_nil)
    (sv_cons (sv_if (tv_cmpV 5 op_ltD (EV.x (ev_c1 c_len X.z_len (ex_var 1)))) (sv_one (sv_exp (ev_mut 6 PySem.F.slot_list_append PySem.F.type_list_append mt_app (ev_ixV 3 (ix_all hr.units) (EV.x (ev_tup (av_cons (ev_var 4) (av_cons (ev_binV 5 op_addD (EV.x ev_int)) av_nil)))))))) sv_nil)
    (sv_cons (sv_if (TW.tv (tv_and (tv_cmpV 4 op_ltD (EV.x (ev_c1 c_len X.z_len (ex_var 0)))) (tv_and (tv_cmpV 5 op_ltD (EV.x (ev_c1 c_len X.z_len (ex_var 1)))) (tv_and (tv_cmp (op_eqD' hr.units) (ev_ixV 0 (ix_all hr.units) (ex_var 4)) (EV.x (ev_ixV 1 (ix_all hr.units) (ex_var 5)))) (tv_and1 (tv_chn op_leD op_leD ev_int (ev_binV 4 op_subD (ex_var 5)) (ex_var 2))))))) (sv_cons (sv_asg (ev_ixV 3 (ix_all hr.units) (EV.x (ev_tup (av_cons (ev_binV 4 op_addD (EV.x ev_int)) (av_cons (ev_binV 5 op_addD (EV.x ev_int)) av_nil))))) (gv_t (gvs_cons (gv_n 7 sc_best_match.nd) (gvs_cons (gv_n 8 sc_best_match.nd) gvs_nil))))
    (sv_one (sv_exp (ev_mut 6 PySem.F.slot_list_append PySem.F.type_list_append mt_app (ev_tup (av_cons (ev_binV 7 op_subD (EV.x ev_int)) (av_cons (ev_bin op_addD (ev_tup (av_cons (ev_tup (av_cons (ev_var 4) (av_cons (ev_var 5) av_nil))) av_nil)) (ex_var 8)) av_nil))))))) sv_nil)
    (sv_one (sv_asg (ev_c1 (min_walk rfl hr.units) X.z_min (ex_var 6)) (gv_s 3 hr.units (ev_tup (av_cons (ev_var 4) (av_cons (ev_var 5) av_nil)))))))))))))
    (sv_one (sv_ret (ev_ix (ix_all hr.units) (ev_ixV 3 (ix_all hr.units) (EV.x (ev_tup (av_cons ev_int (av_cons ev_int av_nil))))) (EV.x ev_int))))))
theorem ok_lost_places {k : Nat} (X : Fx P w K mg base) : FnOk P w K mg base CX0 (k + 1) X.a_lost_places X.e_lost_places ["left", "right", "match"] (spP P w K 3 m_lost_places) :=
  mk_pure (k := k + 0) b_lost_places X.f_lost_places sc_lost_places rfl rfl fun cdv A outer s H E hr =>
    (sv_cons (sv_un2 3 4 sc_lost_places.nd (nv_e (EN.e (en_lc 8 [("x", 5), ("_", 6)] sc_lost_places.nd (iv_any (ev_var 2)) (fun _ _ _ _ _ => (gv_t (gvs_cons (gv_n 5 sc_lost_places.nd) (gvs_cons (gv_n 6 sc_lost_places.nd) gvs_nil)))) (fun _ _ _ _ _ => ifs_nil) (fun _ _ _ _ _ => (ev_var 5)) (ok := bk_lost_places_0)))) (nv_e (EN.e (en_lc 8 [("_", 6), ("y", 7)] sc_lost_places.nd (iv_any (ev_var 2)) (fun _ _ _ _ _ => (gv_t (gvs_cons (gv_n 6 sc_lost_places.nd) (gvs_cons (gv_n 7 sc_lost_places.nd) gvs_nil)))) (fun _ _ _ _ _ => ifs_nil) (fun _ _ _ _ _ => (ev_var 7)) (ok := bk_lost_places_1)))))
    (sv_one (sv_ret (ev_tup (av_cons (ev_c1T c_tuple X.z_tuple (EV.x (EN.e (en_lc 8 [("x", 5)] sc_lost_places.nd (iv_r1 X.z_range (av_cons (ev_c1 c_len X.z_len (ex_var 0)) av_nil)) (fun _ _ _ _ _ => (gv_n 5 sc_lost_places.nd)) (fun _ _ _ _ _ => (ifs_one (tv_cmpV 5 (op_notInA hr.units) (ex_var 3)))) (fun _ _ _ _ _ => (ev_var 5)) (ok := bk_lost_places_2))))) (av_cons (ev_c1T c_tuple X.z_tuple (EV.x (EN.e (en_lc 8 [("y", 7)] sc_lost_places.nd (iv_r1 X.z_range (av_cons (ev_c1 c_len X.z_len (ex_var 1)) av_nil)) (fun _ _ _ _ _ => (gv_n 7 sc_lost_places.nd)) (fun _ _ _ _ _ => (ifs_one (tv_cmpV 7 (op_notInA hr.units) (ex_var 4)))) (fun _ _ _ _ _ => (ev_var 7)) (ok := bk_lost_places_3))))) av_nil))))))
theorem ok_gaps_of {k : Nat} (X : Fx P w K mg base) : FnOk P w K mg base CX0 (k + 1) X.a_gaps_of X.e_gaps_of ["match"] (spP P w K 1 m_gaps_of) :=
  mk_pure (k := k + 0) b_gaps_of X.f_gaps_of sc_gaps_of rfl rfl fun cdv A outer s H E hr =>
    (sv_one (sv_ret (ev_c1T c_tuple X.z_tuple (EV.x (EN.e (en_lc 3 [("x", 1), ("y", 2)] sc_gaps_of.nd (iv_any (ev_var 0)) (fun _ _ _ _ _ => (gv_t (gvs_cons (gv_n 1 sc_gaps_of.nd) (gvs_cons (gv_n 2 sc_gaps_of.nd) gvs_nil)))) (fun _ _ _ _ _ => ifs_nil) (fun _ _ _ _ _ => (ev_binV 1 op_subD (ex_var 2))) (ok := bk_gaps_of_0)))))))
theorem ok_likeness {k : Nat} (X : Fx P w K mg base) : FnOk P w K mg base CX0 (k + 1) X.a_likeness X.e_likeness ["left", "right", "gap"] (spP P w K 3 m_likeness) :=
  mk_pure (k := k + 0) b_likeness X.f_likeness sc_likeness rfl rfl fun cdv A outer s H E hr =>
    (sv_cons (sv_lc 3 5 [("x", 4)] sc_likeness.nd nE (fun h => nvR_e (EnR.e h)) (iv_r2 X.z_range (av_cons (ev_var 2) (av_cons (ev_c1 c_len X.z_len (ex_var 0)) av_nil))) (fun _ _ _ _ _ => (gv_n 4 sc_likeness.nd)) (fun _ _ _ _ _ => (ifs_one (tv_cmp op_ltD (ev_binV 4 op_subD (ex_var 2)) (EV.x (ev_c1 c_len X.z_len (ex_var 1)))))) (fun _ _ _ _ _ => (ev_var 4)) (ok := bk_likeness_0))
    (sv_one (sv_ret (ev_c1 c_len X.z_len (EV.x (EN.e (en_lc 5 [("x", 4)] sc_likeness.nd (iv_any (ev_var 3)) (fun _ _ _ _ _ => (gv_n 4 sc_likeness.nd)) (fun _ _ _ _ _ => (ifs_one (tv_cmp (op_eqD' hr.units) (ev_ixV 0 (ix_all hr.units) (ex_var 4)) (EV.x (ev_ixV 1 (ix_all hr.units) (EV.x (ev_binV 4 op_subD (ex_var 2)))))))) (fun _ _ _ _ _ => (ev_var 4)) (ok := bk_likeness_1))))))))
theorem ok__law_draws {k : Nat} (X : Fx P w K mg base) : FnOk P w K mg base CX0 (k + 1) X.a__law_draws X.e__law_draws ["script", "many"] (spP P w K 2 m__law_draws) :=
  mk_pure (k := k + 0) b__law_draws X.f__law_draws sc__law_draws rfl rfl fun cdv A outer s H E hr =>
    (sv_cons (sv_set 2 sc__law_draws.nd (nv_n (en_lst av_nil)))
    (sv_cons (sv_set 3 sc__law_draws.nd (nv_e ev_int))
    (sv_cons (sv_for (iv_r1 X.z_range (av_cons (ev_c1 c_len X.z_len (ex_var 0)) av_nil)) (gv_n 4 sc__law_draws.nd) (sv_cons (sv_set 5 sc__law_draws.nd (nv_e (ev_c1 c_abs X.z_abs (EV.x (ev_c1T c_int X.z_int (EV.x (ev_ixV 0 (ix_all hr.units) (ex_var 4))))))))
    (sv_cons (sv_set 3 sc__law_draws.nd (nv_e (ev_bin op_modD (ev_c1T c_int X.z_int (EV.x (ev_bin op_addD (ev_bin op_addD (ev_binV 3 op_mulD (EV.x ev_int)) (EV.x (ev_binV 5 op_modD (EV.x ev_int)))) (ex_var 4)))) (EV.x ev_int))))
    (sv_cons (sv_set 6 sc__law_draws.nd (nv_e ev_int))
    (sv_cons (sv_if (tv_cmpV 5 op_geD (EV.x (ev_bin op_powD ev_int (EV.x ev_int)))) (sv_one (sv_set 6 sc__law_draws.nd (nv_e (ev_var 5)))) (sv_cons (sv_exp (ev_mut 2 PySem.F.slot_list_append PySem.F.type_list_append mt_app (ev_bin op_modD (ev_c1T c_int X.z_int (ex_var 5)) (EV.x ev_int))))
    (sv_one (sv_exp (ev_mut 2 PySem.F.slot_list_append PySem.F.type_list_append mt_app (ev_bin op_modD (ev_bin op_modD (ev_c1T c_int X.z_int (EV.x (ev_bin op_addD (ev_binV 3 op_mulD (EV.x ev_int)) (EV.x ev_int)))) (EV.x ev_int)) (EV.x ev_int)))))))
    (sv_one (sv_for (iv_r1 X.z_range (av_cons ev_int av_nil)) (gv_n 7 sc__law_draws.nd) (sv_one (sv_if (tv_cmpV 6 op_gtD (EV.x ev_int)) (sv_cons (sv_exp (ev_mut 2 PySem.F.slot_list_append PySem.F.type_list_append mt_app (ev_bin op_modD (ev_c1T c_int X.z_int (ex_var 6)) (EV.x ev_int))))
    (sv_one (sv_set 6 sc__law_draws.nd (nv_e (ev_binV 6 op_divD (EV.x ev_int)))))) sv_nil)))))))))
    (sv_cons (sv_for (iv_r1 X.z_range (av_cons (ev_var 1) av_nil)) (gv_n 4 sc__law_draws.nd) (sv_cons (sv_set 3 sc__law_draws.nd (nv_e (ev_bin op_modD (ev_c1T c_int X.z_int (EV.x (ev_bin op_addD (ev_bin op_addD (ev_binV 3 op_mulD (EV.x ev_int)) (ex_var 4)) (EV.x ev_int)))) (EV.x ev_int))))
    (sv_one (sv_exp (ev_mut 2 PySem.F.slot_list_append PySem.F.type_list_append mt_app (ev_bin op_modD (ev_c1T c_int X.z_int (ex_var 3)) (EV.x ev_int)))))))
    (sv_one (sv_ret (ev_slV 2 ov_none (ov_some (ev_var 1)))))))))
theorem ok__law_next {k : Nat} (X : Fx P w K mg base) : FnOk P w K mg base CX0 (k + 1) X.a__law_next X.e__law_next ["w", "many"] (spI2 P w K m__law_next) :=
  mk_i2 (k := k + 0) b__law_next X.f__law_next sc__law_next rfl rfl (by decide) fun cdv A outer s H E hr =>
    (sv_cons (sv_augS 0 hr.units ip_addI ev_str ev_int)
    (sv_cons (sv_if (tv_cmp op_gtD (ev_ixV 0 (ix_all hr.units) (EV.x ev_str)) (EV.x (ev_c1 c_len X.z_len (EV.x (ev_ixV 0 (ix_all hr.units) (EV.x ev_str)))))) (sv_one (sv_ret ev_int)) sv_nil)
    (sv_one (sv_ret (ev_bin op_modD (ev_c1T c_int X.z_int (EV.x (ev_ix (ix_all hr.units) (ev_ixV 0 (ix_all hr.units) (EV.x ev_str)) (EV.x (ev_bin op_subD (ev_ixV 0 (ix_all hr.units) (EV.x ev_str)) (EV.x ev_int)))))) (ex_var 1))))))
theorem ok__law_least {k : Nat} (X : Fx P w K mg base) : FnOk P w K mg base CX0 (k + 1) X.a__law_least X.e__law_least ["a", "b"] (spP P w K 2 m__law_least) :=
  mk_pure (k := k + 0) b__law_least X.f__law_least sc__law_least rfl rfl fun cdv A outer s H E hr =>
    (sv_cons (sv_par 2 3 sc__law_least.nd (nv_e (ev_c1 c_abs X.z_abs (ex_var 0))) (nv_e (ev_c1 c_abs X.z_abs (ex_var 1))))
    (sv_cons (sv_while 100000 (tv_cmpV 3 op_gtD (EV.x ev_int)) (sv_one (sv_par 2 3 sc__law_least.nd (nv_e (ev_var 3)) (nv_e (ev_binV 2 op_modD (ex_var 3))))))
    (sv_cons (sv_set 2 sc__law_least.nd (nv_e (ev_if (tv_cmpV 1 op_gtD (EV.x ev_int)) (ev_var 2) (ev_bin op_subD ev_int (ex_var 2)))))
    (sv_one (sv_ret (ev_tup (av_cons (ev_binV 0 op_divD (ex_var 2)) (av_cons (ev_binV 1 op_divD (ex_var 2)) av_nil))))))))
theorem ok_is_below {k : Nat} (X : Fx P w K mg base) : FnOk P w K mg base CX0 (k + 2) X.a_is_below X.e_is_below ["thing", "many"] (spP P w K 2 m_is_below) :=
  mk_pure (k := k + 1) b_is_below X.f_is_below sc_is_below rfl rfl fun cdv A outer s H E hr =>
    (sv_one (sv_ret (ev_and (ev_call (ok_is_number X (k := k + 0)) hr ⟨X.g_is_number, X.f_is_number.kp, X.b_is_number⟩ (av_cons (ev_var 0) av_nil)) (ev_one (ev_chn op_leD op_ltD ev_int (ev_var 0) (ex_var 1))))))
theorem ok_fraction {k : Nat} (X : Fx P w K mg base) : FnOk P w K mg base CX0 (k + 2) X.a_fraction X.e_fraction ["a", "b"] (spP P w K 2 m_fraction) :=
  mk_pure (k := k + 1) b_fraction X.f_fraction sc_fraction rfl rfl fun cdv A outer s H E hr =>
    (sv_cons (sv_set 2 sc_fraction.nd (nv_e (ev_call (ok_common X (k := k + 0)) hr ⟨X.g_common, X.f_common.kp, X.b_common⟩ (av_cons (ev_var 0) (av_cons (ev_var 1) av_nil)))))
    (sv_cons (sv_if (tv_cmpV 1 op_ltD (EV.x ev_int)) (sv_one (sv_set 2 sc_fraction.nd (nv_e (ev_un un_negD (ex_var 2))))) sv_nil)
    (sv_one (sv_ret (ev_tup (av_cons (ev_binV 0 op_divD (ex_var 2)) (av_cons (ev_binV 1 op_divD (ex_var 2)) av_nil)))))))
theorem ok_jumps {k : Nat} (X : Fx P w K mg base) : FnOk P w K mg base CX0 (k + 2) X.a_jumps X.e_jumps ["match"] (spP P w K 1 m_jumps) :=
  mk_pure (k := k + 1) b_jumps X.f_jumps sc_jumps rfl rfl fun cdv A outer s H E hr =>
    (sv_cons (sv_set 1 sc_jumps.nd (nv_e (ev_call (ok_gaps_of X (k := k + 0)) hr ⟨X.g_gaps_of, X.f_gaps_of.kp, X.b_gaps_of⟩ (av_cons (ev_var 0) av_nil))))
    (sv_one (sv_ret (ev_c1T c_tuple X.z_tuple (EV.x (EN.e (en_lc 3 [("k", 2)] sc_jumps.nd (iv_r2 X.z_range (av_cons ev_int (av_cons (ev_c1 c_len X.z_len (ex_var 1)) av_nil))) (fun _ _ _ _ _ => (gv_n 2 sc_jumps.nd)) (fun _ _ _ _ _ => (ifs_one (tv_cmp (op_neD' hr.units) (ev_ixV 1 (ix_all hr.units) (ex_var 2)) (EV.x (ev_ixV 1 (ix_all hr.units) (EV.x (ev_binV 2 op_subD (EV.x ev_int)))))))) (fun _ _ _ _ _ => (ev_var 2)) (ok := bk_jumps_0))))))))
theorem ok_best_gap {k : Nat} (X : Fx P w K mg base) : FnOk P w K mg base CX0 (k + 2) X.a_best_gap X.e_best_gap ["left", "right", "most"] (spP P w K 3 m_best_gap) :=
  mk_pure (k := k + 1) b_best_gap X.f_best_gap sc_best_gap rfl rfl fun cdv A outer s H E hr =>
    (sv_one (sv_ret (ev_ix (ix_all hr.units) (ev_c1 (min_walk rfl hr.units) X.z_min (EV.x (EN.e (en_lc 4 [("gap", 3)] sc_best_gap.nd (iv_r1 X.z_range (av_cons (ev_binV 2 op_addD (EV.x ev_int)) av_nil)) (fun _ _ _ _ _ => (gv_n 3 sc_best_gap.nd)) (fun _ _ _ _ _ => ifs_nil) (fun _ _ _ _ _ => (ev_tup (av_cons (ev_un un_negD (EV.x (ev_call (ok_likeness X (k := k + 0)) hr ⟨X.g_likeness, X.f_likeness.kp, X.b_likeness⟩ (av_cons (ev_var 0) (av_cons (ev_var 1) (av_cons (ev_var 3) av_nil)))))) (av_cons (ev_var 3) av_nil)))) (ok := bk_best_gap_0))))) (EV.x ev_int))))
theorem ok_parted {k : Nat} (X : Fx P w K mg base) : FnOk P w K mg base CX0 (k + 3) X.a_parted X.e_parted ["one", "other"] (spP P w K 2 m_parted) :=
  mk_pure (k := k + 2) b_parted X.f_parted sc_parted rfl rfl fun cdv A outer s H E hr =>
    (sv_one (sv_ret (ev_call (ok_fraction X (k := k + 0)) hr ⟨X.g_fraction, X.f_fraction.kp, X.b_fraction⟩ (av_cons (ev_bin op_mulD (ev_ixV 0 (ix_all hr.units) (EV.x ev_int)) (EV.x (ev_ixV 1 (ix_all hr.units) (EV.x ev_int)))) (av_cons (ev_bin op_mulD (ev_ixV 0 (ix_all hr.units) (EV.x ev_int)) (EV.x (ev_ixV 1 (ix_all hr.units) (EV.x ev_int)))) av_nil)))))
theorem ok_depths_of {k : Nat} (X : Fx P w K mg base) : FnOk P w K mg base CX0 (k + 3) X.a_depths_of X.e_depths_of ["base", "focus", "gap"] (spP P w K 3 m_depths_of) :=
  mk_pure (k := k + 2) b_depths_of X.f_depths_of sc_depths_of rfl rfl fun cdv A outer s H E hr =>
    (sv_one (sv_ret (ev_tup (av_cons (ev_call (ok_fraction X (k := k + 0)) hr ⟨X.g_fraction, X.f_fraction.kp, X.b_fraction⟩ (av_cons (ev_binV 0 op_mulD (ex_var 1)) (av_cons (ev_binV 2 op_addD (EV.x ev_int)) av_nil))) (av_cons (ev_if (tv_cmpV 2 op_gtD (EV.x ev_int)) (ev_call (ok_fraction X (k := k + 0)) hr ⟨X.g_fraction, X.f_fraction.kp, X.b_fraction⟩ (av_cons (ev_binV 0 op_mulD (ex_var 1)) (av_cons (ev_var 2) av_nil))) ev_non) av_nil)))))
theorem ok_is_pair {k : Nat} (X : Fx P w K mg base) : FnOk P w K mg base CX0 (k + 3) X.a_is_pair X.e_is_pair ["left", "right", "thing"] (spP P w K 3 m_is_pair) :=
  mk_pure (k := k + 2) b_is_pair X.f_is_pair sc_is_pair rfl rfl fun cdv A outer s H E hr =>
    (sv_cons (sv_if (TW.tv (tv_or (tv_not (tv_val (ev_call (ok_is_tuple_of X (k := k + 1)) hr ⟨X.g_is_tuple_of, X.f_is_tuple_of.kp, X.b_is_tuple_of⟩ (av_cons (ev_var 2) (av_cons ev_int av_nil))))) (tv_or (tv_not (tv_val (ev_call (ok_is_below X (k := k + 0)) hr ⟨X.g_is_below, X.f_is_below.kp, X.b_is_below⟩ (av_cons (ev_ixV 2 (ix_all hr.units) (EV.x ev_int)) (av_cons (ev_c1 c_len X.z_len (ex_var 0)) av_nil))))) (tv_or1 (tv_not (tv_val (ev_call (ok_is_below X (k := k + 0)) hr ⟨X.g_is_below, X.f_is_below.kp, X.b_is_below⟩ (av_cons (ev_ixV 2 (ix_all hr.units) (EV.x ev_int)) (av_cons (ev_c1 c_len X.z_len (ex_var 1)) av_nil))))))))) (sv_one (sv_ret ev_bl)) sv_nil)
    (sv_one (sv_ret (ev_and (ev_cmp op_leD (ev_ixV 2 (ix_all hr.units) (EV.x ev_int)) (EV.x (ev_ixV 2 (ix_all hr.units) (EV.x ev_int)))) (ev_one (ev_cmp (op_eqD' hr.units) (ev_ixV 0 (ix_all hr.units) (EV.x (ev_ixV 2 (ix_all hr.units) (EV.x ev_int)))) (EV.x (ev_ixV 1 (ix_all hr.units) (EV.x (ev_ixV 2 (ix_all hr.units) (EV.x ev_int)))))))))))
theorem ok_gap_of {k : Nat} (X : Fx P w K mg base) : FnOk P w K mg base CX0 (k + 4) X.a_gap_of X.e_gap_of ["base", "focus", "depth"] (spP P w K 3 m_gap_of) :=
  mk_pure (k := k + 3) b_gap_of X.f_gap_of sc_gap_of rfl rfl fun cdv A outer s H E hr =>
    (sv_one (sv_ret (ev_call (ok_floor_of X (k := k + 2)) hr ⟨X.g_floor_of, X.f_floor_of.kp, X.b_floor_of⟩ (av_cons (ev_call (ok_parted X (k := k + 0)) hr ⟨X.g_parted, X.f_parted.kp, X.b_parted⟩ (av_cons (ev_tup (av_cons (ev_binV 0 op_mulD (ex_var 1)) (av_cons ev_int av_nil))) (av_cons (ev_var 2) av_nil))) av_nil))))
theorem ok_is_match {k : Nat} (X : Fx P w K mg base) : FnOk P w K mg base CX0 (k + 4) X.a_is_match X.e_is_match ["left", "right", "match"] (spP P w K 3 m_is_match) :=
  mk_pure (k := k + 3) b_is_match X.f_is_match sc_is_match rfl rfl fun cdv A outer s H E hr =>
    (sv_cons (sv_if (TW.tv (tv_or (tv_not (tv_val (ev_isi .tuple X.z_isinstance X.z_tuple (ex_var 2)))) (tv_or1 (tv_not (tv_val (ev_c1 (c_all rfl) X.z_all (EV.x (EN.e (en_lc 6 [("pair", 5)] sc_is_match.nd (iv_any (ev_var 2)) (fun _ _ _ _ _ => (gv_n 5 sc_is_match.nd)) (fun _ _ _ _ _ => ifs_nil) (fun _ _ _ _ _ => (ev_call (ok_is_pair X (k := k + 0)) hr ⟨X.g_is_pair, X.f_is_pair.kp, X.b_is_pair⟩ (av_cons (ev_var 0) (av_cons (ev_var 1) (av_cons (ev_var 5) av_nil))))) (ok := bk_is_match_0)))))))))) (sv_one (sv_ret ev_bl)) sv_nil)
    (sv_one (sv_ret (ev_c1 (c_all rfl) X.z_all (EV.x (EN.e (en_lc 6 [("one", 3), ("other", 4)] sc_is_match.nd (iv_zip X.z_zip (av_cons (ev_var 2) (av_cons (ev_slV 2 (ov_some ev_int) ov_none) av_nil))) (fun _ _ _ _ _ => (gv_t (gvs_cons (gv_n 3 sc_is_match.nd) (gvs_cons (gv_n 4 sc_is_match.nd) gvs_nil)))) (fun _ _ _ _ _ => ifs_nil) (fun _ _ _ _ _ => (ev_and (ev_cmp op_ltD (ev_ixV 3 (ix_all hr.units) (EV.x ev_int)) (EV.x (ev_ixV 4 (ix_all hr.units) (EV.x ev_int)))) (ev_one (ev_cmp op_ltD (ev_ixV 3 (ix_all hr.units) (EV.x ev_int)) (EV.x (ev_ixV 4 (ix_all hr.units) (EV.x ev_int))))))) (ok := bk_is_match_1))))))))
theorem ok__law_holds {k : Nat} (X : Fx P w K mg base) : FnOk P w K mg base CX0 (k + 5) X.a__law_holds X.e__law_holds ["w"] (spI1 P w K m__law_holds) :=
  mk_i1 (k := k + 4) b__law_holds X.f__law_holds sc__law_holds rfl rfl (by decide) fun cdv A outer s H E hr =>
    (sv_cons (sv_par 1 2 sc__law_holds.nd (nv_e (ev_bin op_addD ev_int (EV.x (ev_i2 0 (ok__law_next X (k := k + 3)) hr ⟨X.g__law_next, X.f__law_next.kp, X.b__law_next⟩ ev_int)))) (nv_e (ev_bin op_addD ev_int (EV.x (ev_i2 0 (ok__law_next X (k := k + 3)) hr ⟨X.g__law_next, X.f__law_next.kp, X.b__law_next⟩ ev_int)))))
    (sv_cons (sv_par 3 4 sc__law_holds.nd (nv_e (ev_bin op_addD ev_int (EV.x (ev_i2 0 (ok__law_next X (k := k + 3)) hr ⟨X.g__law_next, X.f__law_next.kp, X.b__law_next⟩ ev_int)))) (nv_e (ev_bin op_addD ev_int (EV.x (ev_i2 0 (ok__law_next X (k := k + 3)) hr ⟨X.g__law_next, X.f__law_next.kp, X.b__law_next⟩ ev_int)))))
    (sv_cons (sv_set 5 sc__law_holds.nd (nv_e (ev_call (ok__law_least X (k := k + 3)) hr ⟨X.g__law_least, X.f__law_least.kp, X.b__law_least⟩ (av_cons (ev_var 3) (av_cons (ev_var 4) av_nil)))))
    (sv_cons (sv_set 6 sc__law_holds.nd (nv_e (ev_bin op_divD (ev_bin op_mulD (ev_binV 1 op_mulD (ex_var 2)) (EV.x (ev_ixV 5 (ix_all hr.units) (EV.x ev_int)))) (EV.x (ev_ixV 5 (ix_all hr.units) (EV.x ev_int))))))
    (sv_cons (sv_if (tv_cmp (op_neD' hr.units) (ev_call (ok_gap_of X (k := k + 0)) hr ⟨X.g_gap_of, X.f_gap_of.kp, X.b_gap_of⟩ (av_cons (ev_var 1) (av_cons (ev_var 2) (av_cons (ev_var 5) av_nil)))) (ex_var 6)) (sv_one (sv_ret ev_bl)) sv_nil)
    (sv_cons (sv_set 7 sc__law_holds.nd (nv_e (ev_call (ok__law_least X (k := k + 3)) hr ⟨X.g__law_least, X.f__law_least.kp, X.b__law_least⟩ (av_cons (ev_binV 1 op_mulD (ex_var 2)) (av_cons (ev_binV 6 op_addD (EV.x ev_int)) av_nil)))))
    (sv_cons (sv_set 8 sc__law_holds.nd (nv_e (ev_if (tv_cmpV 6 op_gtD (EV.x ev_int)) (ev_call (ok__law_least X (k := k + 3)) hr ⟨X.g__law_least, X.f__law_least.kp, X.b__law_least⟩ (av_cons (ev_binV 1 op_mulD (ex_var 2)) (av_cons (ev_var 6) av_nil))) ev_non)))
    (sv_cons (sv_if (TW.tv (tv_or (tv_cmp (op_neD' hr.units) (ev_call (ok_depths_of X (k := k + 1)) hr ⟨X.g_depths_of, X.f_depths_of.kp, X.b_depths_of⟩ (av_cons (ev_var 1) (av_cons (ev_var 2) (av_cons (ev_var 6) av_nil)))) (EV.x (ev_tup (av_cons (ev_var 7) (av_cons (ev_var 8) av_nil))))) (tv_or1 (tv_cmp op_geD (ev_bin op_mulD (ev_ixV 7 (ix_all hr.units) (EV.x ev_int)) (EV.x (ev_ixV 5 (ix_all hr.units) (EV.x ev_int)))) (EV.x (ev_bin op_mulD (ev_ixV 5 (ix_all hr.units) (EV.x ev_int)) (EV.x (ev_ixV 7 (ix_all hr.units) (EV.x ev_int))))))))) (sv_one (sv_ret ev_bl)) sv_nil)
    (sv_cons (sv_par 9 10 sc__law_holds.nd (nv_e (ev_i2 0 (ok__law_next X (k := k + 3)) hr ⟨X.g__law_next, X.f__law_next.kp, X.b__law_next⟩ ev_int)) (nv_e (ev_i2 0 (ok__law_next X (k := k + 3)) hr ⟨X.g__law_next, X.f__law_next.kp, X.b__law_next⟩ ev_int)))
    (sv_cons (sv_if (tv_cmp (op_neD' hr.units) (ev_call (ok_surely_nearer X (k := k + 3)) hr ⟨X.g_surely_nearer, X.f_surely_nearer.kp, X.b_surely_nearer⟩ (av_cons (ev_var 1) (av_cons (ev_var 2) (av_cons (ev_var 9) (av_cons (ev_var 10) av_nil))))) (EV.x (ev_cmpV 9 op_gtD (ex_var 10)))) (sv_one (sv_ret ev_bl)) sv_nil)
    (sv_cons (sv_par 11 12 sc__law_holds.nd (nv_e (ev_bin op_addD ev_int (EV.x (ev_i2 0 (ok__law_next X (k := k + 3)) hr ⟨X.g__law_next, X.f__law_next.kp, X.b__law_next⟩ ev_int)))) (nv_e (ev_i2 0 (ok__law_next X (k := k + 3)) hr ⟨X.g__law_next, X.f__law_next.kp, X.b__law_next⟩ ev_int)))
    (sv_cons (sv_set 13 sc__law_holds.nd (nv_e (ev_tr1 X.z_tuple X.z_range (ev_var 11))))
    (sv_cons (sv_set 14 sc__law_holds.nd (nv_e (ev_bin op_addD (ev_slV 13 (ov_some (ev_c2 (c_min2 rfl) X.z_min (ev_var 12) (ex_var 11))) ov_none) (EV.x (ev_c1T c_tuple X.z_tuple (EV.x (EN.e (en_lc 17 [("k", 16)] sc__law_holds.nd (iv_r1 X.z_range (av_cons (ev_c2 (c_min2 rfl) X.z_min (ev_var 12) (ex_var 11)) av_nil)) (fun _ _ _ _ _ => (gv_n 16 sc__law_holds.nd)) (fun _ _ _ _ _ => ifs_nil) (fun _ _ _ _ _ => (ev_bin op_addD ev_int (ex_var 16))) (ok := bk__law_holds_0)))))))))
    (sv_cons (sv_set 15 sc__law_holds.nd (nv_e (ev_call (ok_best_match X (k := k + 3)) hr ⟨X.g_best_match, X.f_best_match.kp, X.b_best_match⟩ (av_cons (ev_var 13) (av_cons (ev_var 14) (av_cons (ev_var 12) av_nil))))))
    (sv_cons (sv_if (TW.tv (tv_or (tv_cmp (op_neD' hr.units) (ev_c1 c_len X.z_len (ex_var 15)) (EV.x (ev_c2 (c_max2 rfl) X.z_max ev_int (EV.x (ev_binV 11 op_subD (ex_var 12)))))) (tv_or (tv_cmp op_isNotD (ev_call (ok_is_match X (k := k + 0)) hr ⟨X.g_is_match, X.f_is_match.kp, X.b_is_match⟩ (av_cons (ev_var 13) (av_cons (ev_var 14) (av_cons (ev_var 15) av_nil)))) (EV.x ev_bl)) (tv_or (tv_cmp (op_neD' hr.units) (ev_call (ok_gaps_of X (k := k + 3)) hr ⟨X.g_gaps_of, X.f_gaps_of.kp, X.b_gaps_of⟩ (av_cons (ev_var 15) av_nil)) (EV.x (ev_bin op_mulD (ev_tup (av_cons (ev_var 12) av_nil)) (EV.x (ev_c1 c_len X.z_len (ex_var 15)))))) (tv_or1 (tv_cmp (op_neD' hr.units) (ev_call (ok_jumps X (k := k + 2)) hr ⟨X.g_jumps, X.f_jumps.kp, X.b_jumps⟩ (av_cons (ev_var 15) av_nil)) (EV.x (ev_tup av_nil)))))))) (sv_one (sv_ret ev_bl)) sv_nil)
    (sv_one (sv_ret (ev_and (ev_cmp (op_eqD' hr.units) (ev_call (ok_likeness X (k := k + 3)) hr ⟨X.g_likeness, X.f_likeness.kp, X.b_likeness⟩ (av_cons (ev_var 13) (av_cons (ev_var 14) (av_cons (ev_var 12) av_nil)))) (EV.x (ev_c2 (c_max2 rfl) X.z_max ev_int (EV.x (ev_binV 11 op_subD (ex_var 12)))))) (ev_and (ev_or (ev_cmpV 11 op_leD (ex_var 12)) (ev_one (ev_cmp (op_eqD' hr.units) (ev_call (ok_best_gap X (k := k + 2)) hr ⟨X.g_best_gap, X.f_best_gap.kp, X.b_best_gap⟩ (av_cons (ev_var 13) (av_cons (ev_var 14) (av_cons ev_int av_nil)))) (ex_var 12)))) (ev_one (ev_cmp (op_eqD' hr.units) (ev_call (ok_lost_places X (k := k + 3)) hr ⟨X.g_lost_places, X.f_lost_places.kp, X.b_lost_places⟩ (av_cons (ev_var 13) (av_cons (ev_var 13) (av_cons (ev_c1T c_tuple X.z_tuple (EV.x (EN.e (en_lc 17 [("k", 16)] sc__law_holds.nd (iv_r1 X.z_range (av_cons (ev_var 11) av_nil)) (fun _ _ _ _ _ => (gv_n 16 sc__law_holds.nd)) (fun _ _ _ _ _ => ifs_nil) (fun _ _ _ _ _ => (ev_tup (av_cons (ev_var 16) (av_cons (ev_var 16) av_nil)))) (ok := bk__law_holds_1))))) av_nil)))) (EV.x (ev_tup (av_cons (ev_tup av_nil) (av_cons (ev_tup av_nil) av_nil)))))))))))))))))))))))))
theorem ok_law {k : Nat} (X : Fx P w K mg base) : FnOk P w K mg base CX0 (k + 6) X.a_law X.e_law ["script"] (spP P w K 1 m_law) :=
  mk_pure (k := k + 5) b_law X.f_law sc_law rfl rfl fun cdv A outer s H E hr =>
    (sv_cons (sv_set 1 sc_law.nd (nv_n (en_dict hr.units (pv_cons ev_str (ev_call (ok__law_draws X (k := k + 4)) hr ⟨X.g__law_draws, X.f__law_draws.kp, X.b__law_draws⟩ (av_cons (ev_var 0) (av_cons ev_int av_nil))) (pv_cons ev_str ev_int pv_nil)))))
    (sv_cons (sv_for (iv_r1 X.z_range (av_cons ev_int av_nil)) (gv_n 2 sc_law.nd) (sv_one (sv_if (tv_not (tv_val (ev_i1 1 (ok__law_holds X (k := k + 0)) hr ⟨X.g__law_holds, X.f__law_holds.kp, X.b__law_holds⟩))) (sv_one (sv_ret ev_bl)) sv_nil)))
    (sv_one (sv_ret ev_bl))))
end
end L_k15
namespace L_k15
open PySem PySem.Spec PyProof.Rows L2 EV
/-! ### fractions -/
theorem gcd_step (a b : Int) (h : 0 < b) : Int.gcd b (a.fmod b) = Int.gcd a b := by
  rw [Int.fmod_eq_emod_of_nonneg _ (Int.le_of_lt h), Int.gcd_comm a b]
  rw [show a % b = a - b * (a / b) by have := Int.emod_add_mul_ediv a b; omega]
  exact Int.gcd_sub_mul_left_right ..
/-- the loop of the greatest common measure, in slots i = 0, j = 1 of two -/
theorem common_loop : ∀ (n : Nat) (a b : Int), 0 ≤ b → b < n → ∃ g : Int, whileF (bOf (eOpV dNe 1 (eC (.int 0)))) (sPar 0 1 (nE (eVar 1)) (nE (eOpV dMod 0 (rVar 1)))) n [.sh (.int a), .sh (.int b)] = some (.nx, [.sh (.int g), .sh (.int 0)]) ∧ g.natAbs = Int.gcd a b
  | 0, _, _, h0, h1 => by omega
  | n + 1, a, b, h0, h1 => by
    by_cases hb : b = 0
    · subst hb
      exact ⟨a, by simp [whileF, dNe, eqOk, PyData.plain, PyData.depth, PyData.eqv], by simp⟩
    · have hb0 : 0 < b := by omega
      have m0 : 0 ≤ a.fmod b ∧ a.fmod b < b := by
        rw [Int.fmod_eq_emod_of_nonneg _ h0]
        exact ⟨Int.emod_nonneg _ hb, Int.emod_lt_of_pos _ hb0⟩
      obtain ⟨g, e, hg⟩ := common_loop n b (a.fmod b) m0.1 (by omega)
      refine ⟨g, ?_, by rw [hg, gcd_step a b hb0]⟩
      simp [whileF, dNe, eqOk, PyData.plain, PyData.depth, PyData.eqv, hb, dMod_n hb]
      exact e
theorem least_loop (A B : Slot) : ∀ (n : Nat) (a b : Int), 0 ≤ a → 0 ≤ b → b < n → whileF (bOf (eOpV (dCmp cGt) 3 (eC (.int 0)))) (sPar 2 3 (nE (eVar 3)) (nE (eOpV dMod 2 (rVar 3)))) n [A, B, .sh (.int a), .sh (.int b)] = some (.nx, [A, B, .sh (.int (Int.gcd a b)), .sh (.int 0)])
  | 0, _, _, _, h0, h1 => by omega
  | n + 1, a, b, ha, h0, h1 => by
    by_cases hb : b = 0
    · subst hb
      have : ((a.natAbs : Nat) : Int) = a := by omega
      simp [whileF, dCmp, cGt, this]
    · have hb0 : 0 < b := by omega
      have m0 : 0 ≤ a.fmod b ∧ a.fmod b < b := by
        rw [Int.fmod_eq_emod_of_nonneg _ h0]
        exact ⟨Int.emod_nonneg _ hb, Int.emod_lt_of_pos _ hb0⟩
      have e := least_loop A B n b (a.fmod b) h0 m0.1 (by omega)
      rw [gcd_step a b hb0] at e
      simp [whileF, dCmp, cGt, hb0, dMod_n hb]
      exact e
theorem common_eq (a b : Int) (h0 : 0 ≤ b) (h1 : b < 90000) : m_common [.int a, .int b] = some (.int (Int.gcd a b)) := by
  obtain ⟨g, e, hg⟩ := common_loop 100000 a b h0 (by omega)
  have r0 : rho0 2 [.int a, .int b] = [.sh (.int a), .sh (.int b)] := rfl
  have hh : (if g < 0 then -g else g) = ((Int.gcd a b : Nat) : Int) := by rw [← hg]; split <;> omega
  unfold m_common runP b_common
  rw [r0, sSeq_nx (sWhile_of e)]
  simp [dAbs_i, hh]
/-- a over b in least terms -/
def red (a b : Int) : PyData := .tuple [.int (a / (Int.gcd a b : Nat)), .int (b / (Int.gcd a b : Nat))]
theorem gcd_pos' (a b : Int) (h : 0 < b) : 0 < ((Int.gcd a b : Nat) : Int) := by
  have := Int.gcd_pos_of_ne_zero_right a (show b ≠ 0 by omega)
  omega
theorem fd {a g : Int} (h : 0 < g) (h2 : g < 1000000) : dDiv (.int a) (.int g) = some (.int (a / g)) := by
  rw [dDiv_n ⟨by omega, by omega⟩, Int.fdiv_eq_ediv_of_nonneg _ (by omega)]
theorem gcd_le' (a b : Int) (h : 0 < b) : ((Int.gcd a b : Nat) : Int) ≤ b := by
  have := Int.gcd_le_natAbs_right (a := a) (b := b) (by omega)
  omega
theorem fraction_eq (a b : Int) (h0 : 0 < b) (h1 : b < 90000) : m_fraction [.int a, .int b] = some (red a b) := by
  have hg := gcd_pos' a b h0
  have hl := gcd_le' a b h0
  have r0 : rho0 3 [.int a, .int b] = [.sh (.int a), .sh (.int b), .un] := rfl
  unfold m_fraction runP b_fraction
  rw [r0]
  simp [common_eq a b (by omega) h1, dCmp_i, cLt, show ¬ b < 0 by omega, fd hg (by omega), red]
theorem least_eq (a b : Int) (h0 : 0 < b) (h1 : b < 90000) : m__law_least [.int a, .int b] = some (red a b) := by
  have hg := gcd_pos' a b h0
  have hl := gcd_le' a b h0
  have r0 : rho0 4 [.int a, .int b] = [.sh (.int a), .sh (.int b), .un, .un] := rfl
  have aa : ((if a < 0 then -a else a).gcd (if b < 0 then -b else b)) = Int.gcd a b := by
    rw [if_neg (show ¬ b < 0 by omega)]
    split
    · exact Int.neg_gcd
    · rfl
  have e := least_loop (.sh (.int a)) (.sh (.int b)) 100000 (if a < 0 then -a else a) (if b < 0 then -b else b) (by split <;> omega) (by split <;> omega) (by split <;> omega)
  rw [aa] at e
  unfold m__law_least runP b__law_least
  rw [r0, sSeq_nx (ρ' := [.sh (.int a), .sh (.int b), .sh (.int (if a < 0 then -a else a)), .sh (.int (if b < 0 then -b else b))]) (by simp [dAbs_i]), sSeq_nx (sWhile_of e)]
  simp [dCmp_i, cGt, h0, fd hg (by omega), red]
theorem red_le (x q : Int) (h0 : 0 < q) : 0 < q / (Int.gcd x q : Nat) ∧ q / (Int.gcd x q : Nat) ≤ q := by
  have hg := gcd_pos' x q h0
  have hl := gcd_le' x q h0
  refine ⟨Int.ediv_pos_of_pos_of_dvd h0 (by omega) (Int.gcd_dvd_right ..), Int.ediv_le_self _ (by omega)⟩
theorem nn {x : PyData} (h : x.plain = true) (h2 : x.depth ≤ 5) : dNe x x = some (.bool false) := by
  unfold dNe eqOk
  rw [h, SeqAt.eqv_refl_plain _ h]
  simp
  omega
theorem ee {x : PyData} (h : x.plain = true) (h2 : x.depth ≤ 5) : dEq x x = some (.bool true) := by
  unfold dEq eqOk
  rw [h, SeqAt.eqv_refl_plain _ h]
  simp
  omega
theorem red_plain (a b : Int) : (red a b).plain = true ∧ (red a b).depth ≤ 5 := by
  exact ⟨rfl, Nat.le_of_ble_eq_true rfl⟩
theorem next_ex {ds : List Int} (hr : InR ds) (a : Nat) (n : Int) (hn : 0 < n) : ∃ x, (0 ≤ x ∧ x < n) ∧ m__law_next (W ds a) (.int n) = some (.int x, W ds ((a + 1 : Nat) : Int)) :=
  ⟨_, ⟨Int.emod_nonneg _ (by omega), Int.emod_lt_of_pos _ hn⟩, next_eq ds a n hn⟩

theorem bf_mul {b f : Int} (hb : 0 < b ∧ b < 100) (hf : 0 < f ∧ f < 100) : dMul (.int b) (.int f) = some (.int (b * f)) := dMul_r (by omega)
theorem bf_b {b f : Int} (hb : 0 < b ∧ b < 100) (hf : 0 < f ∧ f < 100) : 0 < b * f ∧ b * f < 10000 := by
  refine ⟨Int.mul_pos hb.1 hf.1, ?_⟩
  have h1 : b * f ≤ 99 * f := Int.mul_le_mul_of_nonneg_right (by omega) (by omega)
  omega
theorem gap_eq (b f U V : Int) (hb : 0 < b ∧ b < 100) (hf : 0 < f ∧ f < 100) (hU : 0 < U ∧ U < 100) (hV : 0 < V ∧ V < 100) : m_gap_of [.int b, .int f, .tuple [.int U, .int V]] = some (.int (b * f * V / U)) := by
  have r0 : rho0 3 [.int b, .int f, .tuple [.int U, .int V]] = [.sh (.int b), .sh (.int f), .sh (.tuple [.int U, .int V])] := rfl
  have m1 := bf_mul hb hf
  have pb := bf_b hb hf
  have hg := gcd_pos' (b * f * V) U hU.1
  have hr := red_le (b * f * V) U hU.1
  have i0 : ∀ p q : Int, dIx (.tuple [.int p, .int q]) (.int 0) = some (.int p) := fun _ _ => rfl
  have i1 : ∀ p q : Int, dIx (.tuple [.int p, .int q]) (.int 1) = some (.int q) := fun _ _ => rfl
  have pa : m_parted [.tuple [.int (b * f), .int 1], .tuple [.int U, .int V]] = some (red (b * f * V) U) := by
    have r0 : rho0 2 [.tuple [.int (b * f), .int 1], .tuple [.int U, .int V]] = [.sh (.tuple [.int (b * f), .int 1]), .sh (.tuple [.int U, .int V])] := rfl
    have m2 : dMul (.int (b * f)) (.int V) = some (.int (b * f * V)) := dMul_r (by omega)
    have m3 : dMul (.int 1) (.int U) = some (.int U) := by rw [dMul_r (by omega), Int.one_mul]
    unfold m_parted runP b_parted
    rw [r0]
    simp [i0, i1, m2, m3, fraction_eq (b * f * V) U hU.1 (by omega)]
  have fl : m_floor_of [red (b * f * V) U] = some (.int (b * f * V / U)) := by
    have r0 : rho0 1 [red (b * f * V) U] = [.sh (red (b * f * V) U)] := rfl
    have j0 : dIx (red (b * f * V) U) (.int 0) = some (.int (b * f * V / (Int.gcd (b * f * V) U : Nat))) := rfl
    have j1 : dIx (red (b * f * V) U) (.int 1) = some (.int (U / (Int.gcd (b * f * V) U : Nat))) := rfl
    unfold m_floor_of runP b_floor_of
    rw [r0]
    simp [j0, j1, fd hr.1 (by omega)]
    obtain ⟨u, hu⟩ : ((Int.gcd (b * f * V) U : Nat) : Int) ∣ b * f * V := Int.gcd_dvd_left ..
    obtain ⟨v, hv⟩ : ((Int.gcd (b * f * V) U : Nat) : Int) ∣ U := Int.gcd_dvd_right ..
    generalize hG : ((Int.gcd (b * f * V) U : Nat) : Int) = g at hg hu hv
    rw [hu]
    subst hv
    rw [Int.mul_ediv_cancel_left _ (by omega), Int.mul_ediv_cancel_left _ (by omega), Int.mul_ediv_mul_of_pos _ _ hg]
  unfold m_gap_of runP b_gap_of
  rw [r0]
  simp [m1, pa, fl]
/-- the second, or none -/
def hi (x g : Int) : PyData := if 0 < g then red x g else .none
theorem depths_eq (b f g : Int) (hb : 0 < b ∧ b < 100) (hf : 0 < f ∧ f < 100) (hg : 0 ≤ g ∧ g < 80000) : m_depths_of [.int b, .int f, .int g] = some (.tuple [red (b * f) (g + 1), hi (b * f) g]) := by
  have r0 : rho0 3 [.int b, .int f, .int g] = [.sh (.int b), .sh (.int f), .sh (.int g)] := rfl
  have m1 := bf_mul hb hf
  unfold m_depths_of runP b_depths_of
  rw [r0]
  by_cases h0 : 0 < g
  · simp [m1, dAdd_i, fraction_eq (b * f) (g + 1) (by omega) (by omega), dCmp_i, cGt, h0, fraction_eq (b * f) g h0 (by omega), hi]
  · simp [m1, dAdd_i, fraction_eq (b * f) (g + 1) (by omega) (by omega), dCmp_i, cGt, h0, hi]
theorem hi_plain (x g : Int) : (hi x g).plain = true ∧ (hi x g).depth ≤ 4 := by
  unfold hi
  split
  · exact ⟨rfl, Nat.le_of_ble_eq_true rfl⟩
  · exact ⟨rfl, Nat.le_of_ble_eq_true rfl⟩
theorem pair_plain (x g y h : Int) : (PyData.tuple [red x y, hi g h]).plain = true ∧ (PyData.tuple [red x y, hi g h]).depth ≤ 5 := by
  have h1 := hi_plain g h
  have h2 := red_plain x y
  have h3 : (red x y).depth ≤ 4 := Nat.le_of_ble_eq_true rfl
  refine ⟨?_, ?_⟩
  · rw [PyData.plain, PyData.plainAll, PyData.plainAll, PyData.plainAll, h1.1, h2.1]; rfl
  · rw [PyData.depth, PyData.depthAll, PyData.depthAll, PyData.depthAll]; omega
def tail15 : SF := (sSeq (sSet 13 (nE (eTR (aCons (eVar 11) aNil)))) (sSeq (sSet 14 (nE (eOp dAdd (eSlV 13 (oSome (eOp dMin2 (eVar 12) (rVar 11))) oNone) (eUn dTuple (eLc 17 [16] (wRng (aCons (eOp dMin2 (eVar 12) (rVar 11)) aNil)) (gN 16) bYes (eOp dAdd (eC (.int 50)) (rVar 16))))))) (sSeq (sSet 15 (nE (eCall m_best_match (aCons (eVar 13) (aCons (eVar 14) (aCons (eVar 12) aNil)))))) (sSeq (sIf (bOr (bOf (eOp dNe (eUn dLen (rVar 15)) (eOp dMax2 (eC (.int 0)) (eOpV dSub 11 (rVar 12))))) (bOr (bOf (eOp dIsNot (eCall m_is_match (aCons (eVar 13) (aCons (eVar 14) (aCons (eVar 15) aNil)))) (eC (.bool true)))) (bOr (bOf (eOp dNe (eCall m_gaps_of (aCons (eVar 15) aNil)) (eOp dMul (eTup (aCons (eVar 12) aNil)) (eUn dLen (rVar 15))))) (bOf (eOp dNe (eCall m_jumps (aCons (eVar 15) aNil)) (eTup aNil)))))) (sRet (eC (.bool false))) sNx) (sRet (eAnd (eOp dEq (eCall m_likeness (aCons (eVar 13) (aCons (eVar 14) (aCons (eVar 12) aNil)))) (eOp dMax2 (eC (.int 0)) (eOpV dSub 11 (rVar 12)))) (eAnd (eOr (eOpV (dCmp cLe) 11 (rVar 12)) (eOp dEq (eCall m_best_gap (aCons (eVar 13) (aCons (eVar 14) (aCons (eC (.int 9)) aNil)))) (rVar 12))) (eOp dEq (eCall m_lost_places (aCons (eVar 13) (aCons (eVar 13) (aCons (eUn dTuple (eLc 17 [16] (wRng (aCons (eVar 11) aNil)) (gN 16) bYes (eTup (aCons (eVar 16) (aCons (eVar 16) aNil))))) aNil)))) (eTup (aCons (eTup aNil) (aCons (eTup aNil) aNil)))))))))))
theorem first (w0 w1 w2 w3 w4 w5 w6 w7 w8 : PyData) (b f p q x y m r : Int) (hb : 0 ≤ b ∧ b < 20) (hf : 0 ≤ f ∧ f < 30) (hp : 0 ≤ p ∧ p < 90) (hq : 0 ≤ q ∧ q < 9)
    (e0 : m__law_next w0 (.int 20) = some (.int b, w1)) (e1 : m__law_next w1 (.int 30) = some (.int f, w2)) (e2 : m__law_next w2 (.int 90) = some (.int p, w3)) (e3 : m__law_next w3 (.int 9) = some (.int q, w4))
    (e4 : m__law_next w4 (.int 9) = some (.int x, w5)) (e5 : m__law_next w5 (.int 9) = some (.int y, w6)) (e6 : m__law_next w6 (.int 8) = some (.int m, w7)) (e7 : m__law_next w7 (.int 4) = some (.int r, w8)) :
    ∃ s1 s2 s3 s4 s5 s6 s7 s8 s9 s10 : PyData, b__law_holds [.ow w0, .un, .un, .un, .un, .un, .un, .un, .un, .un, .un, .un, .un, .un, .un, .un, .un] = tail15 [.ow w8, .sh s1, .sh s2, .sh s3, .sh s4, .sh s5, .sh s6, .sh s7, .sh s8, .sh s9, .sh s10, .sh (.int (1 + m)), .sh (.int r), .un, .un, .un, .un] := by
  generalize hB : 1 + b = B
  generalize hFF : 1 + f = FF
  generalize hPP : 1 + p = PP
  generalize hQQ : 1 + q = QQ
  have gB : 0 < B ∧ B < 100 := by omega
  have gF : 0 < FF ∧ FF < 100 := by omega
  have gP : 0 < PP ∧ PP < 100 := by omega
  have gQ : 0 < QQ ∧ QQ < 100 := by omega
  have le := least_eq PP QQ gQ.1 (by omega)
  have hr := red_le PP QQ gQ.1
  have hg := gcd_pos' PP QQ gQ.1
  have hU : 0 < PP / (Int.gcd PP QQ : Nat) ∧ PP / (Int.gcd PP QQ : Nat) < 100 := by
    have h1 : PP / (Int.gcd PP QQ : Nat) ≤ PP := Int.ediv_le_self _ (by omega)
    exact ⟨Int.ediv_pos_of_pos_of_dvd gP.1 (by omega) (Int.gcd_dvd_left ..), by omega⟩
  generalize hUU : PP / (Int.gcd PP QQ : Nat) = U at hU
  generalize hVV : QQ / (Int.gcd PP QQ : Nat) = V at hr
  have le : m__law_least [.int PP, .int QQ] = some (.tuple [.int U, .int V]) := by rw [le]; unfold red; rw [hUU, hVV]
  have gV : 0 < V ∧ V < 100 := by omega
  have ga := gap_eq B FF U V gB gF hU gV
  have m1 := bf_mul gB gF
  have pb := bf_b gB gF
  have m2 : dMul (.int (B * FF)) (.int V) = some (.int (B * FF * V)) := dMul_r (by omega)
  have i0 : dIx (.tuple [.int U, .int V]) (.int 0) = some (.int U) := rfl
  have i1 : dIx (.tuple [.int U, .int V]) (.int 1) = some (.int V) := rfl
  have dv : dDiv (.int (B * FF * V)) (.int U) = some (.int (B * FF * V / U)) := fd hU.1 (by omega)
  have gb : 0 ≤ B * FF * V / U ∧ B * FF * V / U < 80000 ∧ B * FF * V < U * (B * FF * V / U + 1) := by
    have h1 : 0 ≤ B * FF * V := Int.mul_nonneg (by omega) (by omega)
    have hq8 : QQ ≤ 9 := by omega
    have h2 : B * FF * V ≤ B * FF * 9 := Int.mul_le_mul_of_nonneg_left (by omega) (by omega)
    have h4 : B * FF ≤ 20 * FF := Int.mul_le_mul_of_nonneg_right (by omega) (by omega)
    have h3 : B * FF * V / U ≤ B * FF * V := Int.ediv_le_self _ h1
    have h5 := Int.emod_add_mul_ediv (B * FF * V) U
    have h6 := Int.emod_lt_of_pos (B * FF * V) hU.1
    refine ⟨Int.ediv_nonneg h1 (by omega), by omega, ?_⟩
    rw [Int.mul_add, Int.mul_one]
    omega
  generalize hG : B * FF * V / U = G at ga dv gb
  have de := depths_eq B FF G gB gF ⟨gb.1, gb.2.1⟩
  have l1 := least_eq (B * FF) (G + 1) (by omega) (by omega)
  have ad : dAdd (.int G) (.int 1) = some (.int (G + 1)) := rfl
  have st8 : ∃ ρ, ρ = hi (B * FF) G := ⟨_, rfl⟩
  have j0 : dIx (red (B * FF) (G + 1)) (.int 0) = some (.int (B * FF / (Int.gcd (B * FF) (G + 1) : Nat))) := rfl
  have j1 : dIx (red (B * FF) (G + 1)) (.int 1) = some (.int ((G + 1) / (Int.gcd (B * FF) (G + 1) : Nat))) := rfl
  have hg1 := gcd_pos' (B * FF) (G + 1) (by omega)
  have m3 : dMul (.int (B * FF / (Int.gcd (B * FF) (G + 1) : Nat))) (.int V) = some (.int (B * FF / (Int.gcd (B * FF) (G + 1) : Nat) * V)) := dMul_r (by omega)
  have rl := red_le (B * FF) (G + 1) (by omega)
  have m4 : dMul (.int U) (.int ((G + 1) / (Int.gcd (B * FF) (G + 1) : Nat))) = some (.int (U * ((G + 1) / (Int.gcd (B * FF) (G + 1) : Nat)))) := dMul_r (by omega)
  have lt : ¬ (U * ((G + 1) / (Int.gcd (B * FF) (G + 1) : Nat)) ≤ B * FF / (Int.gcd (B * FF) (G + 1) : Nat) * V) := by
    obtain ⟨u, hu⟩ : ((Int.gcd (B * FF) (G + 1) : Nat) : Int) ∣ B * FF := Int.gcd_dvd_left ..
    obtain ⟨v, hv⟩ : ((Int.gcd (B * FF) (G + 1) : Nat) : Int) ∣ (G + 1) := Int.gcd_dvd_right ..
    have h3 := gb.2.2
    generalize ((Int.gcd (B * FF) (G + 1) : Nat) : Int) = g at hg1 hu hv
    rw [hu, hv] at h3 ⊢
    rw [Int.mul_ediv_cancel_left _ (by omega), Int.mul_ediv_cancel_left _ (by omega)]
    intro h4
    have h5 : g * (U * v) ≤ g * (u * V) := Int.mul_le_mul_of_nonneg_left h4 (by omega)
    rw [Int.mul_left_comm] at h3
    rw [Int.mul_assoc] at h3
    omega
  have nd := nn (pair_plain (B * FF) (B * FF) (G + 1) G).1 (pair_plain (B * FF) (B * FF) (G + 1) G).2
  have sn : m_surely_nearer [.int B, .int FF, .int x, .int y] = some (.bool (cGt x y)) := by
    have r0 : rho0 4 [.int B, .int FF, .int x, .int y] = [.sh (.int B), .sh (.int FF), .sh (.int x), .sh (.int y)] := rfl
    unfold m_surely_nearer runP b_surely_nearer
    rw [r0]
    simp [dCmp_i]
  have nb : ∀ b : Bool, dNe (.bool b) (.bool b) = some (.bool false) := fun b => by cases b <;> rfl
  refine ⟨.int B, .int FF, .int PP, .int QQ, .tuple [.int U, .int V], .int G, red (B * FF) (G + 1), hi (B * FF) G, .int x, .int y, ?_⟩
  unfold b__law_holds
  rw [sSeq_nx (ρ' := [.ow w2, .sh (.int B), .sh (.int FF), .un, .un, .un, .un, .un, .un, .un, .un, .un, .un, .un, .un, .un, .un]) (by simp [e0, e1, dAdd_i, hB, hFF])]
  rw [sSeq_nx (ρ' := [.ow w4, .sh (.int B), .sh (.int FF), .sh (.int PP), .sh (.int QQ), .un, .un, .un, .un, .un, .un, .un, .un, .un, .un, .un, .un]) (by simp [e2, e3, dAdd_i, hPP, hQQ])]
  rw [sSeq_nx (ρ' := [.ow w4, .sh (.int B), .sh (.int FF), .sh (.int PP), .sh (.int QQ), .sh (.tuple [.int U, .int V]), .un, .un, .un, .un, .un, .un, .un, .un, .un, .un, .un]) (by simp [le])]
  rw [sSeq_nx (ρ' := [.ow w4, .sh (.int B), .sh (.int FF), .sh (.int PP), .sh (.int QQ), .sh (.tuple [.int U, .int V]), .sh (.int G), .un, .un, .un, .un, .un, .un, .un, .un, .un, .un]) (by simp [m1, i0, i1, m2, dv])]
  rw [sSeq_nx (ρ' := [.ow w4, .sh (.int B), .sh (.int FF), .sh (.int PP), .sh (.int QQ), .sh (.tuple [.int U, .int V]), .sh (.int G), .un, .un, .un, .un, .un, .un, .un, .un, .un, .un]) (by simp [ga, nn (x := .int G) rfl (Nat.le_of_ble_eq_true rfl)])]
  rw [sSeq_nx (ρ' := [.ow w4, .sh (.int B), .sh (.int FF), .sh (.int PP), .sh (.int QQ), .sh (.tuple [.int U, .int V]), .sh (.int G), .sh (red (B * FF) (G + 1)), .un, .un, .un, .un, .un, .un, .un, .un, .un]) (by simp [m1, ad, l1])]
  rw [sSeq_nx (ρ' := [.ow w4, .sh (.int B), .sh (.int FF), .sh (.int PP), .sh (.int QQ), .sh (.tuple [.int U, .int V]), .sh (.int G), .sh (red (B * FF) (G + 1)), .sh (hi (B * FF) G), .un, .un, .un, .un, .un, .un, .un, .un]) (by
    by_cases h0 : 0 < G
    · simp [dCmp_i, cGt, h0, m1, least_eq (B * FF) G h0 (by omega), hi]
    · simp [dCmp_i, cGt, h0, hi])]
  rw [sSeq_nx (ρ' := [.ow w4, .sh (.int B), .sh (.int FF), .sh (.int PP), .sh (.int QQ), .sh (.tuple [.int U, .int V]), .sh (.int G), .sh (red (B * FF) (G + 1)), .sh (hi (B * FF) G), .un, .un, .un, .un, .un, .un, .un, .un]) (by simp [de, nd, j0, j1, i0, i1, m3, m4, dCmp_i, cGe, lt])]
  rw [sSeq_nx (ρ' := [.ow w6, .sh (.int B), .sh (.int FF), .sh (.int PP), .sh (.int QQ), .sh (.tuple [.int U, .int V]), .sh (.int G), .sh (red (B * FF) (G + 1)), .sh (hi (B * FF) G), .sh (.int x), .sh (.int y), .un, .un, .un, .un, .un, .un]) (by simp [e4, e5])]
  rw [sSeq_nx (ρ' := [.ow w6, .sh (.int B), .sh (.int FF), .sh (.int PP), .sh (.int QQ), .sh (.tuple [.int U, .int V]), .sh (.int G), .sh (red (B * FF) (G + 1)), .sh (hi (B * FF) G), .sh (.int x), .sh (.int y), .un, .un, .un, .un, .un, .un]) (by simp [sn, dCmp_i, nb])]
  rw [sSeq_nx (ρ' := [.ow w8, .sh (.int B), .sh (.int FF), .sh (.int PP), .sh (.int QQ), .sh (.tuple [.int U, .int V]), .sh (.int G), .sh (red (B * FF) (G + 1)), .sh (hi (B * FF) G), .sh (.int x), .sh (.int y), .sh (.int (1 + m)), .sh (.int r), .un, .un, .un, .un]) (by simp [e6, e7, dAdd_i])]
  rfl
def fin15 (o : Option (Fl × Rho)) : Option (PyData × PyData) := match o with
  | some (.rt r, ρ) => (match (ρ : List Slot)[(0 : Nat)]? with
    | some (Slot.ow d') => some (r, d')
    | _ => none)
  | _ => none
theorem t_1_0 (w8 : PyData) (s1 s2 s3 s4 s5 s6 s7 s8 s9 s10 : PyData) : fin15 (tail15 [.ow w8, .sh s1, .sh s2, .sh s3, .sh s4, .sh s5, .sh s6, .sh s7, .sh s8, .sh s9, .sh s10, .sh (.int 1), .sh (.int 0), .un, .un, .un, .un]) = some (.bool true, w8) := by kernel_rfl
theorem t_1_1 (w8 : PyData) (s1 s2 s3 s4 s5 s6 s7 s8 s9 s10 : PyData) : fin15 (tail15 [.ow w8, .sh s1, .sh s2, .sh s3, .sh s4, .sh s5, .sh s6, .sh s7, .sh s8, .sh s9, .sh s10, .sh (.int 1), .sh (.int 1), .un, .un, .un, .un]) = some (.bool true, w8) := by kernel_rfl
theorem t_1_2 (w8 : PyData) (s1 s2 s3 s4 s5 s6 s7 s8 s9 s10 : PyData) : fin15 (tail15 [.ow w8, .sh s1, .sh s2, .sh s3, .sh s4, .sh s5, .sh s6, .sh s7, .sh s8, .sh s9, .sh s10, .sh (.int 1), .sh (.int 2), .un, .un, .un, .un]) = some (.bool true, w8) := by kernel_rfl
theorem t_1_3 (w8 : PyData) (s1 s2 s3 s4 s5 s6 s7 s8 s9 s10 : PyData) : fin15 (tail15 [.ow w8, .sh s1, .sh s2, .sh s3, .sh s4, .sh s5, .sh s6, .sh s7, .sh s8, .sh s9, .sh s10, .sh (.int 1), .sh (.int 3), .un, .un, .un, .un]) = some (.bool true, w8) := by kernel_rfl
theorem t_2_0 (w8 : PyData) (s1 s2 s3 s4 s5 s6 s7 s8 s9 s10 : PyData) : fin15 (tail15 [.ow w8, .sh s1, .sh s2, .sh s3, .sh s4, .sh s5, .sh s6, .sh s7, .sh s8, .sh s9, .sh s10, .sh (.int 2), .sh (.int 0), .un, .un, .un, .un]) = some (.bool true, w8) := by kernel_rfl
theorem t_2_1 (w8 : PyData) (s1 s2 s3 s4 s5 s6 s7 s8 s9 s10 : PyData) : fin15 (tail15 [.ow w8, .sh s1, .sh s2, .sh s3, .sh s4, .sh s5, .sh s6, .sh s7, .sh s8, .sh s9, .sh s10, .sh (.int 2), .sh (.int 1), .un, .un, .un, .un]) = some (.bool true, w8) := by kernel_rfl
theorem t_2_2 (w8 : PyData) (s1 s2 s3 s4 s5 s6 s7 s8 s9 s10 : PyData) : fin15 (tail15 [.ow w8, .sh s1, .sh s2, .sh s3, .sh s4, .sh s5, .sh s6, .sh s7, .sh s8, .sh s9, .sh s10, .sh (.int 2), .sh (.int 2), .un, .un, .un, .un]) = some (.bool true, w8) := by kernel_rfl
theorem t_2_3 (w8 : PyData) (s1 s2 s3 s4 s5 s6 s7 s8 s9 s10 : PyData) : fin15 (tail15 [.ow w8, .sh s1, .sh s2, .sh s3, .sh s4, .sh s5, .sh s6, .sh s7, .sh s8, .sh s9, .sh s10, .sh (.int 2), .sh (.int 3), .un, .un, .un, .un]) = some (.bool true, w8) := by kernel_rfl
theorem t_3_0 (w8 : PyData) (s1 s2 s3 s4 s5 s6 s7 s8 s9 s10 : PyData) : fin15 (tail15 [.ow w8, .sh s1, .sh s2, .sh s3, .sh s4, .sh s5, .sh s6, .sh s7, .sh s8, .sh s9, .sh s10, .sh (.int 3), .sh (.int 0), .un, .un, .un, .un]) = some (.bool true, w8) := by kernel_rfl
theorem t_3_1 (w8 : PyData) (s1 s2 s3 s4 s5 s6 s7 s8 s9 s10 : PyData) : fin15 (tail15 [.ow w8, .sh s1, .sh s2, .sh s3, .sh s4, .sh s5, .sh s6, .sh s7, .sh s8, .sh s9, .sh s10, .sh (.int 3), .sh (.int 1), .un, .un, .un, .un]) = some (.bool true, w8) := by kernel_rfl
theorem t_3_2 (w8 : PyData) (s1 s2 s3 s4 s5 s6 s7 s8 s9 s10 : PyData) : fin15 (tail15 [.ow w8, .sh s1, .sh s2, .sh s3, .sh s4, .sh s5, .sh s6, .sh s7, .sh s8, .sh s9, .sh s10, .sh (.int 3), .sh (.int 2), .un, .un, .un, .un]) = some (.bool true, w8) := by kernel_rfl
theorem t_3_3 (w8 : PyData) (s1 s2 s3 s4 s5 s6 s7 s8 s9 s10 : PyData) : fin15 (tail15 [.ow w8, .sh s1, .sh s2, .sh s3, .sh s4, .sh s5, .sh s6, .sh s7, .sh s8, .sh s9, .sh s10, .sh (.int 3), .sh (.int 3), .un, .un, .un, .un]) = some (.bool true, w8) := by kernel_rfl
theorem t_4_0 (w8 : PyData) (s1 s2 s3 s4 s5 s6 s7 s8 s9 s10 : PyData) : fin15 (tail15 [.ow w8, .sh s1, .sh s2, .sh s3, .sh s4, .sh s5, .sh s6, .sh s7, .sh s8, .sh s9, .sh s10, .sh (.int 4), .sh (.int 0), .un, .un, .un, .un]) = some (.bool true, w8) := by kernel_rfl
theorem t_4_1 (w8 : PyData) (s1 s2 s3 s4 s5 s6 s7 s8 s9 s10 : PyData) : fin15 (tail15 [.ow w8, .sh s1, .sh s2, .sh s3, .sh s4, .sh s5, .sh s6, .sh s7, .sh s8, .sh s9, .sh s10, .sh (.int 4), .sh (.int 1), .un, .un, .un, .un]) = some (.bool true, w8) := by kernel_rfl
theorem t_4_2 (w8 : PyData) (s1 s2 s3 s4 s5 s6 s7 s8 s9 s10 : PyData) : fin15 (tail15 [.ow w8, .sh s1, .sh s2, .sh s3, .sh s4, .sh s5, .sh s6, .sh s7, .sh s8, .sh s9, .sh s10, .sh (.int 4), .sh (.int 2), .un, .un, .un, .un]) = some (.bool true, w8) := by kernel_rfl
theorem t_4_3 (w8 : PyData) (s1 s2 s3 s4 s5 s6 s7 s8 s9 s10 : PyData) : fin15 (tail15 [.ow w8, .sh s1, .sh s2, .sh s3, .sh s4, .sh s5, .sh s6, .sh s7, .sh s8, .sh s9, .sh s10, .sh (.int 4), .sh (.int 3), .un, .un, .un, .un]) = some (.bool true, w8) := by kernel_rfl
theorem t_5_0 (w8 : PyData) (s1 s2 s3 s4 s5 s6 s7 s8 s9 s10 : PyData) : fin15 (tail15 [.ow w8, .sh s1, .sh s2, .sh s3, .sh s4, .sh s5, .sh s6, .sh s7, .sh s8, .sh s9, .sh s10, .sh (.int 5), .sh (.int 0), .un, .un, .un, .un]) = some (.bool true, w8) := by kernel_rfl
theorem t_5_1 (w8 : PyData) (s1 s2 s3 s4 s5 s6 s7 s8 s9 s10 : PyData) : fin15 (tail15 [.ow w8, .sh s1, .sh s2, .sh s3, .sh s4, .sh s5, .sh s6, .sh s7, .sh s8, .sh s9, .sh s10, .sh (.int 5), .sh (.int 1), .un, .un, .un, .un]) = some (.bool true, w8) := by kernel_rfl
theorem t_5_2 (w8 : PyData) (s1 s2 s3 s4 s5 s6 s7 s8 s9 s10 : PyData) : fin15 (tail15 [.ow w8, .sh s1, .sh s2, .sh s3, .sh s4, .sh s5, .sh s6, .sh s7, .sh s8, .sh s9, .sh s10, .sh (.int 5), .sh (.int 2), .un, .un, .un, .un]) = some (.bool true, w8) := by kernel_rfl
theorem t_5_3 (w8 : PyData) (s1 s2 s3 s4 s5 s6 s7 s8 s9 s10 : PyData) : fin15 (tail15 [.ow w8, .sh s1, .sh s2, .sh s3, .sh s4, .sh s5, .sh s6, .sh s7, .sh s8, .sh s9, .sh s10, .sh (.int 5), .sh (.int 3), .un, .un, .un, .un]) = some (.bool true, w8) := by kernel_rfl
theorem t_6_0 (w8 : PyData) (s1 s2 s3 s4 s5 s6 s7 s8 s9 s10 : PyData) : fin15 (tail15 [.ow w8, .sh s1, .sh s2, .sh s3, .sh s4, .sh s5, .sh s6, .sh s7, .sh s8, .sh s9, .sh s10, .sh (.int 6), .sh (.int 0), .un, .un, .un, .un]) = some (.bool true, w8) := by kernel_rfl
theorem t_6_1 (w8 : PyData) (s1 s2 s3 s4 s5 s6 s7 s8 s9 s10 : PyData) : fin15 (tail15 [.ow w8, .sh s1, .sh s2, .sh s3, .sh s4, .sh s5, .sh s6, .sh s7, .sh s8, .sh s9, .sh s10, .sh (.int 6), .sh (.int 1), .un, .un, .un, .un]) = some (.bool true, w8) := by kernel_rfl
theorem t_6_2 (w8 : PyData) (s1 s2 s3 s4 s5 s6 s7 s8 s9 s10 : PyData) : fin15 (tail15 [.ow w8, .sh s1, .sh s2, .sh s3, .sh s4, .sh s5, .sh s6, .sh s7, .sh s8, .sh s9, .sh s10, .sh (.int 6), .sh (.int 2), .un, .un, .un, .un]) = some (.bool true, w8) := by kernel_rfl
theorem t_6_3 (w8 : PyData) (s1 s2 s3 s4 s5 s6 s7 s8 s9 s10 : PyData) : fin15 (tail15 [.ow w8, .sh s1, .sh s2, .sh s3, .sh s4, .sh s5, .sh s6, .sh s7, .sh s8, .sh s9, .sh s10, .sh (.int 6), .sh (.int 3), .un, .un, .un, .un]) = some (.bool true, w8) := by kernel_rfl
theorem t_7_0 (w8 : PyData) (s1 s2 s3 s4 s5 s6 s7 s8 s9 s10 : PyData) : fin15 (tail15 [.ow w8, .sh s1, .sh s2, .sh s3, .sh s4, .sh s5, .sh s6, .sh s7, .sh s8, .sh s9, .sh s10, .sh (.int 7), .sh (.int 0), .un, .un, .un, .un]) = some (.bool true, w8) := by kernel_rfl
theorem t_7_1 (w8 : PyData) (s1 s2 s3 s4 s5 s6 s7 s8 s9 s10 : PyData) : fin15 (tail15 [.ow w8, .sh s1, .sh s2, .sh s3, .sh s4, .sh s5, .sh s6, .sh s7, .sh s8, .sh s9, .sh s10, .sh (.int 7), .sh (.int 1), .un, .un, .un, .un]) = some (.bool true, w8) := by kernel_rfl
theorem t_7_2 (w8 : PyData) (s1 s2 s3 s4 s5 s6 s7 s8 s9 s10 : PyData) : fin15 (tail15 [.ow w8, .sh s1, .sh s2, .sh s3, .sh s4, .sh s5, .sh s6, .sh s7, .sh s8, .sh s9, .sh s10, .sh (.int 7), .sh (.int 2), .un, .un, .un, .un]) = some (.bool true, w8) := by kernel_rfl
theorem t_7_3 (w8 : PyData) (s1 s2 s3 s4 s5 s6 s7 s8 s9 s10 : PyData) : fin15 (tail15 [.ow w8, .sh s1, .sh s2, .sh s3, .sh s4, .sh s5, .sh s6, .sh s7, .sh s8, .sh s9, .sh s10, .sh (.int 7), .sh (.int 3), .un, .un, .un, .un]) = some (.bool true, w8) := by kernel_rfl
theorem t_8_0 (w8 : PyData) (s1 s2 s3 s4 s5 s6 s7 s8 s9 s10 : PyData) : fin15 (tail15 [.ow w8, .sh s1, .sh s2, .sh s3, .sh s4, .sh s5, .sh s6, .sh s7, .sh s8, .sh s9, .sh s10, .sh (.int 8), .sh (.int 0), .un, .un, .un, .un]) = some (.bool true, w8) := by kernel_rfl
theorem t_8_1 (w8 : PyData) (s1 s2 s3 s4 s5 s6 s7 s8 s9 s10 : PyData) : fin15 (tail15 [.ow w8, .sh s1, .sh s2, .sh s3, .sh s4, .sh s5, .sh s6, .sh s7, .sh s8, .sh s9, .sh s10, .sh (.int 8), .sh (.int 1), .un, .un, .un, .un]) = some (.bool true, w8) := by kernel_rfl
theorem t_8_2 (w8 : PyData) (s1 s2 s3 s4 s5 s6 s7 s8 s9 s10 : PyData) : fin15 (tail15 [.ow w8, .sh s1, .sh s2, .sh s3, .sh s4, .sh s5, .sh s6, .sh s7, .sh s8, .sh s9, .sh s10, .sh (.int 8), .sh (.int 2), .un, .un, .un, .un]) = some (.bool true, w8) := by kernel_rfl
theorem t_8_3 (w8 : PyData) (s1 s2 s3 s4 s5 s6 s7 s8 s9 s10 : PyData) : fin15 (tail15 [.ow w8, .sh s1, .sh s2, .sh s3, .sh s4, .sh s5, .sh s6, .sh s7, .sh s8, .sh s9, .sh s10, .sh (.int 8), .sh (.int 3), .un, .un, .un, .un]) = some (.bool true, w8) := by kernel_rfl
theorem tail_ok (w8 : PyData) (s1 s2 s3 s4 s5 s6 s7 s8 s9 s10 : PyData) (m r : Int) (hm : 0 ≤ m ∧ m < 8) (hr : 0 ≤ r ∧ r < 4) : fin15 (tail15 [.ow w8, .sh s1, .sh s2, .sh s3, .sh s4, .sh s5, .sh s6, .sh s7, .sh s8, .sh s9, .sh s10, .sh (.int (1 + m)), .sh (.int r), .un, .un, .un, .un]) = some (.bool true, w8) := by
  have h1 : m = 0 ∨ m = 1 ∨ m = 2 ∨ m = 3 ∨ m = 4 ∨ m = 5 ∨ m = 6 ∨ m = 7 := by omega
  have h2 : r = 0 ∨ r = 1 ∨ r = 2 ∨ r = 3 := by omega
  rcases h1 with rfl | rfl | rfl | rfl | rfl | rfl | rfl | rfl
  · rcases h2 with rfl | rfl | rfl | rfl
    · exact t_1_0 w8 s1 s2 s3 s4 s5 s6 s7 s8 s9 s10
    · exact t_1_1 w8 s1 s2 s3 s4 s5 s6 s7 s8 s9 s10
    · exact t_1_2 w8 s1 s2 s3 s4 s5 s6 s7 s8 s9 s10
    · exact t_1_3 w8 s1 s2 s3 s4 s5 s6 s7 s8 s9 s10
  · rcases h2 with rfl | rfl | rfl | rfl
    · exact t_2_0 w8 s1 s2 s3 s4 s5 s6 s7 s8 s9 s10
    · exact t_2_1 w8 s1 s2 s3 s4 s5 s6 s7 s8 s9 s10
    · exact t_2_2 w8 s1 s2 s3 s4 s5 s6 s7 s8 s9 s10
    · exact t_2_3 w8 s1 s2 s3 s4 s5 s6 s7 s8 s9 s10
  · rcases h2 with rfl | rfl | rfl | rfl
    · exact t_3_0 w8 s1 s2 s3 s4 s5 s6 s7 s8 s9 s10
    · exact t_3_1 w8 s1 s2 s3 s4 s5 s6 s7 s8 s9 s10
    · exact t_3_2 w8 s1 s2 s3 s4 s5 s6 s7 s8 s9 s10
    · exact t_3_3 w8 s1 s2 s3 s4 s5 s6 s7 s8 s9 s10
  · rcases h2 with rfl | rfl | rfl | rfl
    · exact t_4_0 w8 s1 s2 s3 s4 s5 s6 s7 s8 s9 s10
    · exact t_4_1 w8 s1 s2 s3 s4 s5 s6 s7 s8 s9 s10
    · exact t_4_2 w8 s1 s2 s3 s4 s5 s6 s7 s8 s9 s10
    · exact t_4_3 w8 s1 s2 s3 s4 s5 s6 s7 s8 s9 s10
  · rcases h2 with rfl | rfl | rfl | rfl
    · exact t_5_0 w8 s1 s2 s3 s4 s5 s6 s7 s8 s9 s10
    · exact t_5_1 w8 s1 s2 s3 s4 s5 s6 s7 s8 s9 s10
    · exact t_5_2 w8 s1 s2 s3 s4 s5 s6 s7 s8 s9 s10
    · exact t_5_3 w8 s1 s2 s3 s4 s5 s6 s7 s8 s9 s10
  · rcases h2 with rfl | rfl | rfl | rfl
    · exact t_6_0 w8 s1 s2 s3 s4 s5 s6 s7 s8 s9 s10
    · exact t_6_1 w8 s1 s2 s3 s4 s5 s6 s7 s8 s9 s10
    · exact t_6_2 w8 s1 s2 s3 s4 s5 s6 s7 s8 s9 s10
    · exact t_6_3 w8 s1 s2 s3 s4 s5 s6 s7 s8 s9 s10
  · rcases h2 with rfl | rfl | rfl | rfl
    · exact t_7_0 w8 s1 s2 s3 s4 s5 s6 s7 s8 s9 s10
    · exact t_7_1 w8 s1 s2 s3 s4 s5 s6 s7 s8 s9 s10
    · exact t_7_2 w8 s1 s2 s3 s4 s5 s6 s7 s8 s9 s10
    · exact t_7_3 w8 s1 s2 s3 s4 s5 s6 s7 s8 s9 s10
  · rcases h2 with rfl | rfl | rfl | rfl
    · exact t_8_0 w8 s1 s2 s3 s4 s5 s6 s7 s8 s9 s10
    · exact t_8_1 w8 s1 s2 s3 s4 s5 s6 s7 s8 s9 s10
    · exact t_8_2 w8 s1 s2 s3 s4 s5 s6 s7 s8 s9 s10
    · exact t_8_3 w8 s1 s2 s3 s4 s5 s6 s7 s8 s9 s10
theorem holds_ok : HoldsOk m__law_holds := fun ds a hr hl => by
  obtain ⟨b, hb, e0⟩ := next_ex hr a 20 (by decide)
  obtain ⟨f, hf, e1⟩ := next_ex hr (a + 1) 30 (by decide)
  obtain ⟨p, hp, e2⟩ := next_ex hr (a + 1 + 1) 90 (by decide)
  obtain ⟨q, hq, e3⟩ := next_ex hr (a + 1 + 1 + 1) 9 (by decide)
  obtain ⟨x, hx, e4⟩ := next_ex hr (a + 1 + 1 + 1 + 1) 9 (by decide)
  obtain ⟨y, hy, e5⟩ := next_ex hr (a + 1 + 1 + 1 + 1 + 1) 9 (by decide)
  obtain ⟨m, hm, e6⟩ := next_ex hr (a + 1 + 1 + 1 + 1 + 1 + 1) 8 (by decide)
  obtain ⟨r, hrr, e7⟩ := next_ex hr (a + 1 + 1 + 1 + 1 + 1 + 1 + 1) 4 (by decide)
  obtain ⟨s1, s2, s3, s4, s5, s6, s7, s8, s9, s10, e⟩ := first _ _ _ _ _ _ _ _ _ b f p q x y m r hb hf hp hq e0 e1 e2 e3 e4 e5 e6 e7
  refine ⟨a + 1 + 1 + 1 + 1 + 1 + 1 + 1 + 1, ?_⟩
  have t := tail_ok (W ds ((a + 1 + 1 + 1 + 1 + 1 + 1 + 1 + 1 : Nat) : Int)) s1 s2 s3 s4 s5 s6 s7 s8 s9 s10 m r hm hrr
  rw [← e] at t
  exact t
theorem law_true (ns : List Int) (hl : ns.length ≤ 63) : m_law [iL ns] = some (.bool true) := law_of (h := m__law_holds) holds_ok ns hl
end L_k15
namespace L_k15
open PySem PySem.Spec PyProof.Rows L2 EV
theorem all_mk {l : PySem.W.OpenLaw} {w : World} {K : PySem.W.Frag} {h : Heap} {mg : Str → Option Value} {fa : Addr} (X : K.In h) (G : h.Ns mainGlobals mg) (hfa : mg "law" = some (.ref fa))
    {f_is_number : Addr} {od_is_number an_is_number : Option Addr} {sl_is_number : Array (Option Value)} {oc_is_number kV_is_number dc_is_number pm_is_number cd_is_number ct_is_number : Value}
    (a_is_number : PySem.W.nsIn K mainGlobals "is_number" = some (some (.ref f_is_number))) (l_is_number : K.lookup f_is_number = some ⟨oc_is_number, od_is_number, .func (PySem.W.fnOf "is_number" "is_number" (defArgs s_is_number) (defBody s_is_number) (defScope s_is_number) .none kV_is_number dc_is_number pm_is_number an_is_number cd_is_number ct_is_number), sl_is_number⟩) (c_is_number : PySem.W.codeIn K cd_is_number "is_number" = true) (k_is_number : PySem.W.keepIn K (.ref f_is_number) = true)
    {f_is_below : Addr} {od_is_below an_is_below : Option Addr} {sl_is_below : Array (Option Value)} {oc_is_below kV_is_below dc_is_below pm_is_below cd_is_below ct_is_below : Value}
    (a_is_below : PySem.W.nsIn K mainGlobals "is_below" = some (some (.ref f_is_below))) (l_is_below : K.lookup f_is_below = some ⟨oc_is_below, od_is_below, .func (PySem.W.fnOf "is_below" "is_below" (defArgs s_is_below) (defBody s_is_below) (defScope s_is_below) .none kV_is_below dc_is_below pm_is_below an_is_below cd_is_below ct_is_below), sl_is_below⟩) (c_is_below : PySem.W.codeIn K cd_is_below "is_below" = true) (k_is_below : PySem.W.keepIn K (.ref f_is_below) = true)
    {f_is_tuple_of : Addr} {od_is_tuple_of an_is_tuple_of : Option Addr} {sl_is_tuple_of : Array (Option Value)} {oc_is_tuple_of kV_is_tuple_of dc_is_tuple_of pm_is_tuple_of cd_is_tuple_of ct_is_tuple_of : Value}
    (a_is_tuple_of : PySem.W.nsIn K mainGlobals "is_tuple_of" = some (some (.ref f_is_tuple_of))) (l_is_tuple_of : K.lookup f_is_tuple_of = some ⟨oc_is_tuple_of, od_is_tuple_of, .func (PySem.W.fnOf "is_tuple_of" "is_tuple_of" (defArgs s_is_tuple_of) (defBody s_is_tuple_of) (defScope s_is_tuple_of) .none kV_is_tuple_of dc_is_tuple_of pm_is_tuple_of an_is_tuple_of cd_is_tuple_of ct_is_tuple_of), sl_is_tuple_of⟩) (c_is_tuple_of : PySem.W.codeIn K cd_is_tuple_of "is_tuple_of" = true) (k_is_tuple_of : PySem.W.keepIn K (.ref f_is_tuple_of) = true)
    {f_common : Addr} {od_common an_common : Option Addr} {sl_common : Array (Option Value)} {oc_common kV_common dc_common pm_common cd_common ct_common : Value}
    (a_common : PySem.W.nsIn K mainGlobals "common" = some (some (.ref f_common))) (l_common : K.lookup f_common = some ⟨oc_common, od_common, .func (PySem.W.fnOf "common" "common" (defArgs s_common) (defBody s_common) (defScope s_common) .none kV_common dc_common pm_common an_common cd_common ct_common), sl_common⟩) (c_common : PySem.W.codeIn K cd_common "common" = true) (k_common : PySem.W.keepIn K (.ref f_common) = true)
    {f_fraction : Addr} {od_fraction an_fraction : Option Addr} {sl_fraction : Array (Option Value)} {oc_fraction kV_fraction dc_fraction pm_fraction cd_fraction ct_fraction : Value}
    (a_fraction : PySem.W.nsIn K mainGlobals "fraction" = some (some (.ref f_fraction))) (l_fraction : K.lookup f_fraction = some ⟨oc_fraction, od_fraction, .func (PySem.W.fnOf "fraction" "fraction" (defArgs s_fraction) (defBody s_fraction) (defScope s_fraction) .none kV_fraction dc_fraction pm_fraction an_fraction cd_fraction ct_fraction), sl_fraction⟩) (c_fraction : PySem.W.codeIn K cd_fraction "fraction" = true) (k_fraction : PySem.W.keepIn K (.ref f_fraction) = true)
    {f_parted : Addr} {od_parted an_parted : Option Addr} {sl_parted : Array (Option Value)} {oc_parted kV_parted dc_parted pm_parted cd_parted ct_parted : Value}
    (a_parted : PySem.W.nsIn K mainGlobals "parted" = some (some (.ref f_parted))) (l_parted : K.lookup f_parted = some ⟨oc_parted, od_parted, .func (PySem.W.fnOf "parted" "parted" (defArgs s_parted) (defBody s_parted) (defScope s_parted) .none kV_parted dc_parted pm_parted an_parted cd_parted ct_parted), sl_parted⟩) (c_parted : PySem.W.codeIn K cd_parted "parted" = true) (k_parted : PySem.W.keepIn K (.ref f_parted) = true)
    {f_floor_of : Addr} {od_floor_of an_floor_of : Option Addr} {sl_floor_of : Array (Option Value)} {oc_floor_of kV_floor_of dc_floor_of pm_floor_of cd_floor_of ct_floor_of : Value}
    (a_floor_of : PySem.W.nsIn K mainGlobals "floor_of" = some (some (.ref f_floor_of))) (l_floor_of : K.lookup f_floor_of = some ⟨oc_floor_of, od_floor_of, .func (PySem.W.fnOf "floor_of" "floor_of" (defArgs s_floor_of) (defBody s_floor_of) (defScope s_floor_of) .none kV_floor_of dc_floor_of pm_floor_of an_floor_of cd_floor_of ct_floor_of), sl_floor_of⟩) (c_floor_of : PySem.W.codeIn K cd_floor_of "floor_of" = true) (k_floor_of : PySem.W.keepIn K (.ref f_floor_of) = true)
    {f_gap_of : Addr} {od_gap_of an_gap_of : Option Addr} {sl_gap_of : Array (Option Value)} {oc_gap_of kV_gap_of dc_gap_of pm_gap_of cd_gap_of ct_gap_of : Value}
    (a_gap_of : PySem.W.nsIn K mainGlobals "gap_of" = some (some (.ref f_gap_of))) (l_gap_of : K.lookup f_gap_of = some ⟨oc_gap_of, od_gap_of, .func (PySem.W.fnOf "gap_of" "gap_of" (defArgs s_gap_of) (defBody s_gap_of) (defScope s_gap_of) .none kV_gap_of dc_gap_of pm_gap_of an_gap_of cd_gap_of ct_gap_of), sl_gap_of⟩) (c_gap_of : PySem.W.codeIn K cd_gap_of "gap_of" = true) (k_gap_of : PySem.W.keepIn K (.ref f_gap_of) = true)
    {f_depths_of : Addr} {od_depths_of an_depths_of : Option Addr} {sl_depths_of : Array (Option Value)} {oc_depths_of kV_depths_of dc_depths_of pm_depths_of cd_depths_of ct_depths_of : Value}
    (a_depths_of : PySem.W.nsIn K mainGlobals "depths_of" = some (some (.ref f_depths_of))) (l_depths_of : K.lookup f_depths_of = some ⟨oc_depths_of, od_depths_of, .func (PySem.W.fnOf "depths_of" "depths_of" (defArgs s_depths_of) (defBody s_depths_of) (defScope s_depths_of) .none kV_depths_of dc_depths_of pm_depths_of an_depths_of cd_depths_of ct_depths_of), sl_depths_of⟩) (c_depths_of : PySem.W.codeIn K cd_depths_of "depths_of" = true) (k_depths_of : PySem.W.keepIn K (.ref f_depths_of) = true)
    {f_surely_nearer : Addr} {od_surely_nearer an_surely_nearer : Option Addr} {sl_surely_nearer : Array (Option Value)} {oc_surely_nearer kV_surely_nearer dc_surely_nearer pm_surely_nearer cd_surely_nearer ct_surely_nearer : Value}
    (a_surely_nearer : PySem.W.nsIn K mainGlobals "surely_nearer" = some (some (.ref f_surely_nearer))) (l_surely_nearer : K.lookup f_surely_nearer = some ⟨oc_surely_nearer, od_surely_nearer, .func (PySem.W.fnOf "surely_nearer" "surely_nearer" (defArgs s_surely_nearer) (defBody s_surely_nearer) (defScope s_surely_nearer) .none kV_surely_nearer dc_surely_nearer pm_surely_nearer an_surely_nearer cd_surely_nearer ct_surely_nearer), sl_surely_nearer⟩) (c_surely_nearer : PySem.W.codeIn K cd_surely_nearer "surely_nearer" = true) (k_surely_nearer : PySem.W.keepIn K (.ref f_surely_nearer) = true)
    {f_is_pair : Addr} {od_is_pair an_is_pair : Option Addr} {sl_is_pair : Array (Option Value)} {oc_is_pair kV_is_pair dc_is_pair pm_is_pair cd_is_pair ct_is_pair : Value}
    (a_is_pair : PySem.W.nsIn K mainGlobals "is_pair" = some (some (.ref f_is_pair))) (l_is_pair : K.lookup f_is_pair = some ⟨oc_is_pair, od_is_pair, .func (PySem.W.fnOf "is_pair" "is_pair" (defArgs s_is_pair) (defBody s_is_pair) (defScope s_is_pair) .none kV_is_pair dc_is_pair pm_is_pair an_is_pair cd_is_pair ct_is_pair), sl_is_pair⟩) (c_is_pair : PySem.W.codeIn K cd_is_pair "is_pair" = true) (k_is_pair : PySem.W.keepIn K (.ref f_is_pair) = true)
    {f_is_match : Addr} {od_is_match an_is_match : Option Addr} {sl_is_match : Array (Option Value)} {oc_is_match kV_is_match dc_is_match pm_is_match cd_is_match ct_is_match : Value}
    (a_is_match : PySem.W.nsIn K mainGlobals "is_match" = some (some (.ref f_is_match))) (l_is_match : K.lookup f_is_match = some ⟨oc_is_match, od_is_match, .func (PySem.W.fnOf "is_match" "is_match" (defArgs s_is_match) (defBody s_is_match) (defScope s_is_match) .none kV_is_match dc_is_match pm_is_match an_is_match cd_is_match ct_is_match), sl_is_match⟩) (c_is_match : PySem.W.codeIn K cd_is_match "is_match" = true) (k_is_match : PySem.W.keepIn K (.ref f_is_match) = true)
    {f_best_match : Addr} {od_best_match an_best_match : Option Addr} {sl_best_match : Array (Option Value)} {oc_best_match kV_best_match dc_best_match pm_best_match cd_best_match ct_best_match : Value}
    (a_best_match : PySem.W.nsIn K mainGlobals "best_match" = some (some (.ref f_best_match))) (l_best_match : K.lookup f_best_match = some ⟨oc_best_match, od_best_match, .func (PySem.W.fnOf "best_match" "best_match" (defArgs s_best_match) (defBody s_best_match) (defScope s_best_match) .none kV_best_match dc_best_match pm_best_match an_best_match cd_best_match ct_best_match), sl_best_match⟩) (c_best_match : PySem.W.codeIn K cd_best_match "best_match" = true) (k_best_match : PySem.W.keepIn K (.ref f_best_match) = true)
    {f_lost_places : Addr} {od_lost_places an_lost_places : Option Addr} {sl_lost_places : Array (Option Value)} {oc_lost_places kV_lost_places dc_lost_places pm_lost_places cd_lost_places ct_lost_places : Value}
    (a_lost_places : PySem.W.nsIn K mainGlobals "lost_places" = some (some (.ref f_lost_places))) (l_lost_places : K.lookup f_lost_places = some ⟨oc_lost_places, od_lost_places, .func (PySem.W.fnOf "lost_places" "lost_places" (defArgs s_lost_places) (defBody s_lost_places) (defScope s_lost_places) .none kV_lost_places dc_lost_places pm_lost_places an_lost_places cd_lost_places ct_lost_places), sl_lost_places⟩) (c_lost_places : PySem.W.codeIn K cd_lost_places "lost_places" = true) (k_lost_places : PySem.W.keepIn K (.ref f_lost_places) = true)
    {f_gaps_of : Addr} {od_gaps_of an_gaps_of : Option Addr} {sl_gaps_of : Array (Option Value)} {oc_gaps_of kV_gaps_of dc_gaps_of pm_gaps_of cd_gaps_of ct_gaps_of : Value}
    (a_gaps_of : PySem.W.nsIn K mainGlobals "gaps_of" = some (some (.ref f_gaps_of))) (l_gaps_of : K.lookup f_gaps_of = some ⟨oc_gaps_of, od_gaps_of, .func (PySem.W.fnOf "gaps_of" "gaps_of" (defArgs s_gaps_of) (defBody s_gaps_of) (defScope s_gaps_of) .none kV_gaps_of dc_gaps_of pm_gaps_of an_gaps_of cd_gaps_of ct_gaps_of), sl_gaps_of⟩) (c_gaps_of : PySem.W.codeIn K cd_gaps_of "gaps_of" = true) (k_gaps_of : PySem.W.keepIn K (.ref f_gaps_of) = true)
    {f_jumps : Addr} {od_jumps an_jumps : Option Addr} {sl_jumps : Array (Option Value)} {oc_jumps kV_jumps dc_jumps pm_jumps cd_jumps ct_jumps : Value}
    (a_jumps : PySem.W.nsIn K mainGlobals "jumps" = some (some (.ref f_jumps))) (l_jumps : K.lookup f_jumps = some ⟨oc_jumps, od_jumps, .func (PySem.W.fnOf "jumps" "jumps" (defArgs s_jumps) (defBody s_jumps) (defScope s_jumps) .none kV_jumps dc_jumps pm_jumps an_jumps cd_jumps ct_jumps), sl_jumps⟩) (c_jumps : PySem.W.codeIn K cd_jumps "jumps" = true) (k_jumps : PySem.W.keepIn K (.ref f_jumps) = true)
    {f_likeness : Addr} {od_likeness an_likeness : Option Addr} {sl_likeness : Array (Option Value)} {oc_likeness kV_likeness dc_likeness pm_likeness cd_likeness ct_likeness : Value}
    (a_likeness : PySem.W.nsIn K mainGlobals "likeness" = some (some (.ref f_likeness))) (l_likeness : K.lookup f_likeness = some ⟨oc_likeness, od_likeness, .func (PySem.W.fnOf "likeness" "likeness" (defArgs s_likeness) (defBody s_likeness) (defScope s_likeness) .none kV_likeness dc_likeness pm_likeness an_likeness cd_likeness ct_likeness), sl_likeness⟩) (c_likeness : PySem.W.codeIn K cd_likeness "likeness" = true) (k_likeness : PySem.W.keepIn K (.ref f_likeness) = true)
    {f_best_gap : Addr} {od_best_gap an_best_gap : Option Addr} {sl_best_gap : Array (Option Value)} {oc_best_gap kV_best_gap dc_best_gap pm_best_gap cd_best_gap ct_best_gap : Value}
    (a_best_gap : PySem.W.nsIn K mainGlobals "best_gap" = some (some (.ref f_best_gap))) (l_best_gap : K.lookup f_best_gap = some ⟨oc_best_gap, od_best_gap, .func (PySem.W.fnOf "best_gap" "best_gap" (defArgs s_best_gap) (defBody s_best_gap) (defScope s_best_gap) .none kV_best_gap dc_best_gap pm_best_gap an_best_gap cd_best_gap ct_best_gap), sl_best_gap⟩) (c_best_gap : PySem.W.codeIn K cd_best_gap "best_gap" = true) (k_best_gap : PySem.W.keepIn K (.ref f_best_gap) = true)
    {f__law_draws : Addr} {od__law_draws an__law_draws : Option Addr} {sl__law_draws : Array (Option Value)} {oc__law_draws kV__law_draws dc__law_draws pm__law_draws cd__law_draws ct__law_draws : Value}
    (a__law_draws : PySem.W.nsIn K mainGlobals "_law_draws" = some (some (.ref f__law_draws))) (l__law_draws : K.lookup f__law_draws = some ⟨oc__law_draws, od__law_draws, .func (PySem.W.fnOf "_law_draws" "_law_draws" (defArgs s__law_draws) (defBody s__law_draws) (defScope s__law_draws) .none kV__law_draws dc__law_draws pm__law_draws an__law_draws cd__law_draws ct__law_draws), sl__law_draws⟩) (c__law_draws : PySem.W.codeIn K cd__law_draws "_law_draws" = true) (k__law_draws : PySem.W.keepIn K (.ref f__law_draws) = true)
    {f__law_next : Addr} {od__law_next an__law_next : Option Addr} {sl__law_next : Array (Option Value)} {oc__law_next kV__law_next dc__law_next pm__law_next cd__law_next ct__law_next : Value}
    (a__law_next : PySem.W.nsIn K mainGlobals "_law_next" = some (some (.ref f__law_next))) (l__law_next : K.lookup f__law_next = some ⟨oc__law_next, od__law_next, .func (PySem.W.fnOf "_law_next" "_law_next" (defArgs s__law_next) (defBody s__law_next) (defScope s__law_next) .none kV__law_next dc__law_next pm__law_next an__law_next cd__law_next ct__law_next), sl__law_next⟩) (c__law_next : PySem.W.codeIn K cd__law_next "_law_next" = true) (k__law_next : PySem.W.keepIn K (.ref f__law_next) = true)
    {f__law_least : Addr} {od__law_least an__law_least : Option Addr} {sl__law_least : Array (Option Value)} {oc__law_least kV__law_least dc__law_least pm__law_least cd__law_least ct__law_least : Value}
    (a__law_least : PySem.W.nsIn K mainGlobals "_law_least" = some (some (.ref f__law_least))) (l__law_least : K.lookup f__law_least = some ⟨oc__law_least, od__law_least, .func (PySem.W.fnOf "_law_least" "_law_least" (defArgs s__law_least) (defBody s__law_least) (defScope s__law_least) .none kV__law_least dc__law_least pm__law_least an__law_least cd__law_least ct__law_least), sl__law_least⟩) (c__law_least : PySem.W.codeIn K cd__law_least "_law_least" = true) (k__law_least : PySem.W.keepIn K (.ref f__law_least) = true)
    {f__law_holds : Addr} {od__law_holds an__law_holds : Option Addr} {sl__law_holds : Array (Option Value)} {oc__law_holds kV__law_holds dc__law_holds pm__law_holds cd__law_holds ct__law_holds : Value}
    (a__law_holds : PySem.W.nsIn K mainGlobals "_law_holds" = some (some (.ref f__law_holds))) (l__law_holds : K.lookup f__law_holds = some ⟨oc__law_holds, od__law_holds, .func (PySem.W.fnOf "_law_holds" "_law_holds" (defArgs s__law_holds) (defBody s__law_holds) (defScope s__law_holds) .none kV__law_holds dc__law_holds pm__law_holds an__law_holds cd__law_holds ct__law_holds), sl__law_holds⟩) (c__law_holds : PySem.W.codeIn K cd__law_holds "_law_holds" = true) (k__law_holds : PySem.W.keepIn K (.ref f__law_holds) = true)
    {f_law : Addr} {od_law an_law : Option Addr} {sl_law : Array (Option Value)} {oc_law kV_law dc_law pm_law cd_law ct_law : Value}
    (a_law : PySem.W.nsIn K mainGlobals "law" = some (some (.ref f_law))) (l_law : K.lookup f_law = some ⟨oc_law, od_law, .func (PySem.W.fnOf "law" "law" (defArgs s_law) (defBody s_law) (defScope s_law) .none kV_law dc_law pm_law an_law cd_law ct_law), sl_law⟩) (c_law : PySem.W.codeIn K cd_law "law" = true) (k_law : PySem.W.keepIn K (.ref f_law) = true)
    (z_abs : PySem.W.nsIn K mainGlobals "abs" = some none)
    (z_all : PySem.W.nsIn K mainGlobals "all" = some none)
    (z_bool : PySem.W.nsIn K mainGlobals "bool" = some none)
    (z_int : PySem.W.nsIn K mainGlobals "int" = some none)
    (z_isinstance : PySem.W.nsIn K mainGlobals "isinstance" = some none)
    (z_len : PySem.W.nsIn K mainGlobals "len" = some none)
    (z_max : PySem.W.nsIn K mainGlobals "max" = some none)
    (z_min : PySem.W.nsIn K mainGlobals "min" = some none)
    (z_range : PySem.W.nsIn K mainGlobals "range" = some none)
    (z_tuple : PySem.W.nsIn K mainGlobals "tuple" = some none)
    (z_zip : PySem.W.nsIn K mainGlobals "zip" = some none)
    : ∃ fd : FuncData, (∀ (s : Shared) (v : Value), BindsTo s fd ⟨[v], []⟩ [("script", v)]) ∧ ∀ base : Heap, K.In base → base.Ns mainGlobals mg → FnOk l.prog w K mg base CX0 6 fa fd ["script"] (spP l.prog w K 1 m_law) := by
  have e := hfa.symm.trans (PySem.W.mg_of X G a_law)
  cases e
  have F_is_number := fun_mk (st := s_is_number) l_is_number c_is_number k_is_number
  have B_is_number := F_is_number.binds (ps := ["thing"]) fun _ _ _ _ _ _ us hl => match us, hl with | [_], _ => rfl
  have F_is_below := fun_mk (st := s_is_below) l_is_below c_is_below k_is_below
  have B_is_below := F_is_below.binds (ps := ["thing", "many"]) fun _ _ _ _ _ _ us hl => match us, hl with | [_, _], _ => rfl
  have F_is_tuple_of := fun_mk (st := s_is_tuple_of) l_is_tuple_of c_is_tuple_of k_is_tuple_of
  have B_is_tuple_of := F_is_tuple_of.binds (ps := ["thing", "many"]) fun _ _ _ _ _ _ us hl => match us, hl with | [_, _], _ => rfl
  have F_common := fun_mk (st := s_common) l_common c_common k_common
  have B_common := F_common.binds (ps := ["a", "b"]) fun _ _ _ _ _ _ us hl => match us, hl with | [_, _], _ => rfl
  have F_fraction := fun_mk (st := s_fraction) l_fraction c_fraction k_fraction
  have B_fraction := F_fraction.binds (ps := ["a", "b"]) fun _ _ _ _ _ _ us hl => match us, hl with | [_, _], _ => rfl
  have F_parted := fun_mk (st := s_parted) l_parted c_parted k_parted
  have B_parted := F_parted.binds (ps := ["one", "other"]) fun _ _ _ _ _ _ us hl => match us, hl with | [_, _], _ => rfl
  have F_floor_of := fun_mk (st := s_floor_of) l_floor_of c_floor_of k_floor_of
  have B_floor_of := F_floor_of.binds (ps := ["one"]) fun _ _ _ _ _ _ us hl => match us, hl with | [_], _ => rfl
  have F_gap_of := fun_mk (st := s_gap_of) l_gap_of c_gap_of k_gap_of
  have B_gap_of := F_gap_of.binds (ps := ["base", "focus", "depth"]) fun _ _ _ _ _ _ us hl => match us, hl with | [_, _, _], _ => rfl
  have F_depths_of := fun_mk (st := s_depths_of) l_depths_of c_depths_of k_depths_of
  have B_depths_of := F_depths_of.binds (ps := ["base", "focus", "gap"]) fun _ _ _ _ _ _ us hl => match us, hl with | [_, _, _], _ => rfl
  have F_surely_nearer := fun_mk (st := s_surely_nearer) l_surely_nearer c_surely_nearer k_surely_nearer
  have B_surely_nearer := F_surely_nearer.binds (ps := ["base", "focus", "one", "other"]) fun _ _ _ _ _ _ us hl => match us, hl with | [_, _, _, _], _ => rfl
  have F_is_pair := fun_mk (st := s_is_pair) l_is_pair c_is_pair k_is_pair
  have B_is_pair := F_is_pair.binds (ps := ["left", "right", "thing"]) fun _ _ _ _ _ _ us hl => match us, hl with | [_, _, _], _ => rfl
  have F_is_match := fun_mk (st := s_is_match) l_is_match c_is_match k_is_match
  have B_is_match := F_is_match.binds (ps := ["left", "right", "match"]) fun _ _ _ _ _ _ us hl => match us, hl with | [_, _, _], _ => rfl
  have F_best_match := fun_mk (st := s_best_match) l_best_match c_best_match k_best_match
  have B_best_match := F_best_match.binds (ps := ["left", "right", "most"]) fun _ _ _ _ _ _ us hl => match us, hl with | [_, _, _], _ => rfl
  have F_lost_places := fun_mk (st := s_lost_places) l_lost_places c_lost_places k_lost_places
  have B_lost_places := F_lost_places.binds (ps := ["left", "right", "match"]) fun _ _ _ _ _ _ us hl => match us, hl with | [_, _, _], _ => rfl
  have F_gaps_of := fun_mk (st := s_gaps_of) l_gaps_of c_gaps_of k_gaps_of
  have B_gaps_of := F_gaps_of.binds (ps := ["match"]) fun _ _ _ _ _ _ us hl => match us, hl with | [_], _ => rfl
  have F_jumps := fun_mk (st := s_jumps) l_jumps c_jumps k_jumps
  have B_jumps := F_jumps.binds (ps := ["match"]) fun _ _ _ _ _ _ us hl => match us, hl with | [_], _ => rfl
  have F_likeness := fun_mk (st := s_likeness) l_likeness c_likeness k_likeness
  have B_likeness := F_likeness.binds (ps := ["left", "right", "gap"]) fun _ _ _ _ _ _ us hl => match us, hl with | [_, _, _], _ => rfl
  have F_best_gap := fun_mk (st := s_best_gap) l_best_gap c_best_gap k_best_gap
  have B_best_gap := F_best_gap.binds (ps := ["left", "right", "most"]) fun _ _ _ _ _ _ us hl => match us, hl with | [_, _, _], _ => rfl
  have F__law_draws := fun_mk (st := s__law_draws) l__law_draws c__law_draws k__law_draws
  have B__law_draws := F__law_draws.binds (ps := ["script", "many"]) fun _ _ _ _ _ _ us hl => match us, hl with | [_, _], _ => rfl
  have F__law_next := fun_mk (st := s__law_next) l__law_next c__law_next k__law_next
  have B__law_next := F__law_next.binds (ps := ["w", "many"]) fun _ _ _ _ _ _ us hl => match us, hl with | [_, _], _ => rfl
  have F__law_least := fun_mk (st := s__law_least) l__law_least c__law_least k__law_least
  have B__law_least := F__law_least.binds (ps := ["a", "b"]) fun _ _ _ _ _ _ us hl => match us, hl with | [_, _], _ => rfl
  have F__law_holds := fun_mk (st := s__law_holds) l__law_holds c__law_holds k__law_holds
  have B__law_holds := F__law_holds.binds (ps := ["w"]) fun _ _ _ _ _ _ us hl => match us, hl with | [_], _ => rfl
  have F_law := fun_mk (st := s_law) l_law c_law k_law
  have B_law := F_law.binds (ps := ["script"]) fun _ _ _ _ _ _ us hl => match us, hl with | [_], _ => rfl
  refine ⟨PySem.W.fnOf "law" "law" (defArgs s_law) (defBody s_law) (defScope s_law) .none kV_law dc_law pm_law an_law cd_law ct_law, fun s v => .of_eq rfl, fun base _ _ => ?_⟩
  exact ok_law (k := 0) (⟨_, _, F_is_number, B_is_number, PySem.W.mg_of X G a_is_number, _, _, F_is_below, B_is_below, PySem.W.mg_of X G a_is_below, _, _, F_is_tuple_of, B_is_tuple_of, PySem.W.mg_of X G a_is_tuple_of, _, _, F_common, B_common, PySem.W.mg_of X G a_common, _, _, F_fraction, B_fraction, PySem.W.mg_of X G a_fraction, _, _, F_parted, B_parted, PySem.W.mg_of X G a_parted, _, _, F_floor_of, B_floor_of, PySem.W.mg_of X G a_floor_of, _, _, F_gap_of, B_gap_of, PySem.W.mg_of X G a_gap_of, _, _, F_depths_of, B_depths_of, PySem.W.mg_of X G a_depths_of, _, _, F_surely_nearer, B_surely_nearer, PySem.W.mg_of X G a_surely_nearer, _, _, F_is_pair, B_is_pair, PySem.W.mg_of X G a_is_pair, _, _, F_is_match, B_is_match, PySem.W.mg_of X G a_is_match, _, _, F_best_match, B_best_match, PySem.W.mg_of X G a_best_match, _, _, F_lost_places, B_lost_places, PySem.W.mg_of X G a_lost_places, _, _, F_gaps_of, B_gaps_of, PySem.W.mg_of X G a_gaps_of, _, _, F_jumps, B_jumps, PySem.W.mg_of X G a_jumps, _, _, F_likeness, B_likeness, PySem.W.mg_of X G a_likeness, _, _, F_best_gap, B_best_gap, PySem.W.mg_of X G a_best_gap, _, _, F__law_draws, B__law_draws, PySem.W.mg_of X G a__law_draws, _, _, F__law_next, B__law_next, PySem.W.mg_of X G a__law_next, _, _, F__law_least, B__law_least, PySem.W.mg_of X G a__law_least, _, _, F__law_holds, B__law_holds, PySem.W.mg_of X G a__law_holds, _, _, F_law, B_law, PySem.W.mg_of X G a_law, PySem.W.mg_none_of X G z_abs, PySem.W.mg_none_of X G z_all, PySem.W.mg_none_of X G z_bool, PySem.W.mg_none_of X G z_int, PySem.W.mg_none_of X G z_isinstance, PySem.W.mg_none_of X G z_len, PySem.W.mg_none_of X G z_max, PySem.W.mg_none_of X G z_min, PySem.W.mg_none_of X G z_range, PySem.W.mg_none_of X G z_tuple, PySem.W.mg_none_of X G z_zip⟩ : Fx l.prog w K mg base)
end L_k15
open PySem PySem.W PyProof.Rows
set_option maxHeartbeats 0 in
theorem PySem.Challenge.cw_farwheels_k15_whole_known_depths_by_two_holds : PySem.Challenge.rw_farwheels_k15_whole_known_depths_by_two.Holds := by
  w_on; o_law; k_head; (case hw => w_witness2)
  k_fill
  refine L2.walk_of (l := PySem.Challenge.rw_farwheels_k15_whole_known_depths_by_two) (n := 63) (k := 6) (x := "script") (CX := fun _ => L2.CX0) (sp := fun w => EV.spP PySem.Challenge.rw_farwheels_k15_whole_known_depths_by_two.prog w _ 1 L_k15.m_law) rfl (by decide) rfl ⟨rfl, by decide, by decide⟩ (fun w h Y => PySem.W.kIn_of Y) ?F (fun w H a ns hl _ hS => EV.law_sp hS (L_k15.law_true ns hl)) (fun _ _ _ _ _ h => h)
  case F =>
    intro w mg fa h KX G hmg
    refine' L_k15.all_mk KX G hmg ?a_is_number ?l_is_number ?c_is_number ?k_is_number ?a_is_below ?l_is_below ?c_is_below ?k_is_below ?a_is_tuple_of ?l_is_tuple_of ?c_is_tuple_of ?k_is_tuple_of ?a_common ?l_common ?c_common ?k_common ?a_fraction ?l_fraction ?c_fraction ?k_fraction ?a_parted ?l_parted ?c_parted ?k_parted ?a_floor_of ?l_floor_of ?c_floor_of ?k_floor_of ?a_gap_of ?l_gap_of ?c_gap_of ?k_gap_of ?a_depths_of ?l_depths_of ?c_depths_of ?k_depths_of ?a_surely_nearer ?l_surely_nearer ?c_surely_nearer ?k_surely_nearer ?a_is_pair ?l_is_pair ?c_is_pair ?k_is_pair ?a_is_match ?l_is_match ?c_is_match ?k_is_match ?a_best_match ?l_best_match ?c_best_match ?k_best_match ?a_lost_places ?l_lost_places ?c_lost_places ?k_lost_places ?a_gaps_of ?l_gaps_of ?c_gaps_of ?k_gaps_of ?a_jumps ?l_jumps ?c_jumps ?k_jumps ?a_likeness ?l_likeness ?c_likeness ?k_likeness ?a_best_gap ?l_best_gap ?c_best_gap ?k_best_gap ?a__law_draws ?l__law_draws ?c__law_draws ?k__law_draws ?a__law_next ?l__law_next ?c__law_next ?k__law_next ?a__law_least ?l__law_least ?c__law_least ?k__law_least ?a__law_holds ?l__law_holds ?c__law_holds ?k__law_holds ?a_law ?l_law ?c_law ?k_law ?z_abs ?z_all ?z_bool ?z_int ?z_isinstance ?z_len ?z_max ?z_min ?z_range ?z_tuple ?z_zip
    (case a_is_number => k_is); (case l_is_number => k_is); (case c_is_number => k_is); (case k_is_number => k_is); (case a_is_below => k_is); (case l_is_below => k_is); (case c_is_below => k_is); (case k_is_below => k_is); (case a_is_tuple_of => k_is); (case l_is_tuple_of => k_is); (case c_is_tuple_of => k_is); (case k_is_tuple_of => k_is); (case a_common => k_is); (case l_common => k_is); (case c_common => k_is); (case k_common => k_is); (case a_fraction => k_is); (case l_fraction => k_is); (case c_fraction => k_is); (case k_fraction => k_is); (case a_parted => k_is); (case l_parted => k_is); (case c_parted => k_is); (case k_parted => k_is); (case a_floor_of => k_is); (case l_floor_of => k_is); (case c_floor_of => k_is); (case k_floor_of => k_is); (case a_gap_of => k_is); (case l_gap_of => k_is); (case c_gap_of => k_is); (case k_gap_of => k_is); (case a_depths_of => k_is); (case l_depths_of => k_is); (case c_depths_of => k_is); (case k_depths_of => k_is); (case a_surely_nearer => k_is); (case l_surely_nearer => k_is); (case c_surely_nearer => k_is); (case k_surely_nearer => k_is); (case a_is_pair => k_is); (case l_is_pair => k_is); (case c_is_pair => k_is); (case k_is_pair => k_is); (case a_is_match => k_is); (case l_is_match => k_is); (case c_is_match => k_is); (case k_is_match => k_is); (case a_best_match => k_is); (case l_best_match => k_is); (case c_best_match => k_is); (case k_best_match => k_is); (case a_lost_places => k_is); (case l_lost_places => k_is); (case c_lost_places => k_is); (case k_lost_places => k_is); (case a_gaps_of => k_is); (case l_gaps_of => k_is); (case c_gaps_of => k_is); (case k_gaps_of => k_is); (case a_jumps => k_is); (case l_jumps => k_is); (case c_jumps => k_is); (case k_jumps => k_is); (case a_likeness => k_is); (case l_likeness => k_is); (case c_likeness => k_is); (case k_likeness => k_is); (case a_best_gap => k_is); (case l_best_gap => k_is); (case c_best_gap => k_is); (case k_best_gap => k_is); (case a__law_draws => k_is); (case l__law_draws => k_is); (case c__law_draws => k_is); (case k__law_draws => k_is); (case a__law_next => k_is); (case l__law_next => k_is); (case c__law_next => k_is); (case k__law_next => k_is); (case a__law_least => k_is); (case l__law_least => k_is); (case c__law_least => k_is); (case k__law_least => k_is); (case a__law_holds => k_is); (case l__law_holds => k_is); (case c__law_holds => k_is); (case k__law_holds => k_is); (case a_law => k_is); (case l_law => k_is); (case c_law => k_is); (case k_law => k_is); (case z_abs => k_is); (case z_all => k_is); (case z_bool => k_is); (case z_int => k_is); (case z_isinstance => k_is); (case z_len => k_is); (case z_max => k_is); (case z_min => k_is); (case z_range => k_is); (case z_tuple => k_is); (case z_zip => k_is)

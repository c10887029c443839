import PyProof.Rows.All
import Wide.All
import OpenK.AllK
import Wide.FinOn
import HandS.ForMost
import HandS.Walk
import HandS.Lambda
import HandS.TupAny
import HandS.TupLe
import HandS.IsInst
import HandS.Deep
import HandS.SortInts
import PyProof.NeKinds
import HandS.Zip
import KE.GoesMore
import HandS.SetFor
import HandS.Strs
import HandS.TupSets
import KE.SortData
import HandS.Style
import HandS.Conv
import HandS.ExcOwn
import HandS.CallLocal
import HandS.ExcIs
import KE.KDflt
import HandS.EndTab
import HandS.HeadWalk
import KE.KNestM
import PyProof.ReprRoads
import PyProof.ReprBulk
import HandS.TupMul
import PyProof.WalksMore
import PyProof.Rows.SumAny
import PySem.Challenge.RW_pursespassed_k23_whole_lots_that_may_lie
set_option Elab.async false
set_option linter.all false
set_option maxRecDepth 100000
set_option autoImplicit false
/-! Sim, part 1: data trees, a small store of mutable objects, and what it means that the abstract heap bears them. -/
namespace Sim
open PySem L2

/-- a value: tuples by content, mutable objects by their number in the store, a locked list by content -/
inductive D where
  | non
  | bl (b : Bool)
  | int (i : Int)
  | str (x : Str)
  | tup (ds : List D)
  | loc (n : Nat)
  | fz (ds : List D)
  | ty (n : String)
  | adr (a : Addr)

mutual
def D.beq : D → D → Bool
  | .non, .non => true
  | .bl a, .bl b => a == b
  | .int a, .int b => a == b
  | .str a, .str b => decide (a = b)
  | .tup a, .tup b => D.beqs a b
  | .loc a, .loc b => a == b
  | .fz a, .fz b => D.beqs a b
  | .ty a, .ty b => a == b
  | .adr a, .adr b => decide (a = b)
  | _, _ => false
def D.beqs : List D → List D → Bool
  | [], [] => true
  | a :: as, b :: bs => D.beq a b && D.beqs as bs
  | _, _ => false
end
mutual
theorem D.beq_iff : ∀ a b : D, D.beq a b = true ↔ a = b
  | .non, b => by cases b <;> simp [D.beq]
  | .bl a, b => by cases b <;> simp [D.beq]
  | .int a, b => by cases b <;> simp [D.beq]
  | .str a, b => by cases b <;> simp [D.beq]
  | .tup a, b => by
    cases b with
    | tup b => rw [D.beq, D.beqs_iff a b, D.tup.injEq]
    | _ => simp [D.beq]
  | .loc a, b => by cases b <;> simp [D.beq]
  | .fz a, b => by
    cases b with
    | fz b => rw [D.beq, D.beqs_iff a b, D.fz.injEq]
    | _ => simp [D.beq]
  | .ty a, b => by cases b <;> simp [D.beq]
  | .adr a, b => by cases b <;> simp [D.beq]
theorem D.beqs_iff : ∀ a b : List D, D.beqs a b = true ↔ a = b
  | [], [] => by simp [D.beqs]
  | [], _ :: _ => by simp [D.beqs]
  | _ :: _, [] => by simp [D.beqs]
  | a :: as, b :: bs => by rw [D.beqs, Bool.and_eq_true, D.beq_iff a b, D.beqs_iff as bs, List.cons.injEq]
end
instance : DecidableEq D := fun a b => decidable_of_iff _ (D.beq_iff a b)

/-- a mutable object -/
inductive Ob where
  | lst (ds : List D)
  | dk (es : List (Key × D))
  | ins (c : Str) (fs : List (Str × D))
  deriving DecidableEq

abbrev Store := List Ob
abbrev Dn := List (Option D)

/-- what a locked list is -/
def FzL (K : PySem.W.Frag) (H : Hp) (a : Addr) (xs : List V) : Prop := (∃ o, H a = some (.frz o (.lst xs))) ∨
  ∃ (o : Obj) (its : Array Value) (n : Nat), K.lookup a = some o ∧ o.cls = .type "list" ∧ o.dict = none ∧ o.data = .seq its n ∧ its.size ≤ sizeLine ∧ Vals xs its.toList
theorem FzL.sq {K : PySem.W.Frag} {H : Hp} {a : Addr} {xs : List V} (h : FzL K H a xs) : SqL K H a xs := by
  rcases h with h | h
  · exact .inl (.inr h)
  · exact .inr h

mutual
inductive RV (K : PySem.W.Frag) (ρ : List Addr) (H : Hp) : V → D → Prop
  | non : RV K ρ H .non .non
  | bl (b : Bool) : RV K ρ H (.bl b) (.bl b)
  | int (i : Int) : RV K ρ H (.int i) (.int i)
  | str (x : Str) : RV K ρ H (.str x) (.str x)
  | tup {a : Addr} {xs : List V} {ds : List D} : SqT K H a xs → xs.length ≤ sizeLine → RVs K ρ H xs ds → RV K ρ H (.ref a) (.tup ds)
  | loc {a : Addr} {n : Nat} : ρ[n]? = some a → RV K ρ H (.ref a) (.loc n)
  | fz {a : Addr} {xs : List V} {ds : List D} : FzL K H a xs → xs.length ≤ sizeLine → RVs K ρ H xs ds → RV K ρ H (.ref a) (.fz ds)
  | ty (n : String) : RV K ρ H (.ty n) (.ty n)
  | adr (a : Addr) : RV K ρ H (.ref a) (.adr a)
inductive RVs (K : PySem.W.Frag) (ρ : List Addr) (H : Hp) : List V → List D → Prop
  | nil : RVs K ρ H [] []
  | cons {v : V} {vs : List V} {d : D} {ds : List D} : RV K ρ H v d → RVs K ρ H vs ds → RVs K ρ H (v :: vs) (d :: ds)
end

def NotTbl : HO → Prop
  | .tbl _ => False
  | _ => True
/-- from one heap to a later one: new objects, and changes of the store's own objects alone -/
structure Ext (ρ : List Addr) (H : Hp) (ρ' : List Addr) (H' : Hp) : Prop where
  pre : ∃ more, ρ' = ρ ++ more ∧ ∀ b ∈ more, H b = none
  keep : ∀ b o, H b = some o → b ∉ ρ → NotTbl o → H' b = some o
  there : ∀ b, H' b = none → H b = none
  tups : ∀ b xs, H b = some (.tup xs) → H' b = some (.tup xs)
  frzs : ∀ b o xs, H b = some (.frz o (.lst xs)) → H' b = some (.frz o (.lst xs))
  frzt : ∀ b o xs, H b = some (.frz o (.tup xs)) → H' b = some (.frz o (.tup xs))

section
variable {K : PySem.W.Frag} {ρ ρ1 ρ2 ρ' : List Addr} {H H1 H2 H' : Hp} {a p : Addr} {o : HO} {xs : List V} {v : V} {vs : List V} {d : D} {ds : List D}
theorem Ext.refl : Ext ρ H ρ H := ⟨⟨[], by simp, fun _ h => by cases h⟩, fun _ _ h _ _ => h, fun _ h => h, fun _ _ h => h, fun _ _ _ h => h, fun _ _ _ h => h⟩
theorem Ext.trans (x : Ext ρ H ρ1 H1) (y : Ext ρ1 H1 ρ2 H2) : Ext ρ H ρ2 H2 := by
  obtain ⟨m1, e1, h1⟩ := x.pre
  obtain ⟨m2, e2, h2⟩ := y.pre
  refine ⟨⟨m1 ++ m2, by rw [e2, e1, List.append_assoc], fun b hb => ?_⟩, fun b o h hn nt => ?_, fun b h => x.there b (y.there b h), fun b xs h => y.tups b xs (x.tups b xs h), fun b o xs h => y.frzs b o xs (x.frzs b o xs h), fun b o xs h => y.frzt b o xs (x.frzt b o xs h)⟩
  · rcases List.mem_append.mp hb with hb | hb
    · exact h1 b hb
    · exact x.there b (h2 b hb)
  · refine y.keep b o (x.keep b o h hn nt) (fun hb => ?_) nt
    rw [e1] at hb
    rcases List.mem_append.mp hb with hb | hb
    · exact hn hb
    · rw [h1 b hb] at h; cases h
/-- a new object -/
theorem Ext.new (h : H p = none) : Ext ρ H ρ (upd H p o) :=
  ⟨⟨[], by simp, fun _ h => by cases h⟩, fun b u e _ _ => by rw [upd_ne (ne_of_none e h)]; exact e, fun b e => by
    by_cases hb : b = p
    · rw [hb]; exact h
    · rw [upd_ne hb] at e; exact e,
    fun b xs e => by rw [upd_ne (ne_of_none e h)]; exact e, fun b u xs e => by rw [upd_ne (ne_of_none e h)]; exact e, fun b u xs e => by rw [upd_ne (ne_of_none e h)]; exact e⟩
/-- a new object, taken into the store -/
theorem Ext.add (h : H p = none) : Ext ρ H (ρ ++ [p]) (upd H p o) :=
  have e := Ext.new (ρ := ρ) (o := o) h
  ⟨⟨[p], rfl, fun b hb => by rw [List.mem_singleton.mp hb]; exact h⟩, e.keep, e.there, e.tups, e.frzs, e.frzt⟩
/-- an object that was new is taken into the store -/
theorem Ext.adopt (x : Ext ρ H ρ1 H1) (h : H p = none) : Ext ρ H (ρ1 ++ [p]) H1 := by
  obtain ⟨m, e, hm⟩ := x.pre
  refine ⟨⟨m ++ [p], by rw [e, List.append_assoc], fun b hb => ?_⟩, x.keep, x.there, x.tups, x.frzs, x.frzt⟩
  rcases List.mem_append.mp hb with hb | hb
  · exact hm b hb
  · rw [List.mem_singleton.mp hb]; exact h
def IsMut : HO → Prop
  | .lst _ => True
  | .dK _ => True
  | .dT _ => True
  | .ins _ _ _ => True
  | _ => False
/-- an object of the store is changed -/
theorem Ext.write {u : HO} (hp : p ∈ ρ) (h : H p = some u) (hm : IsMut u) : Ext ρ H ρ (upd H p o) :=
  ⟨⟨[], by simp, fun _ h => by cases h⟩, fun b w e hb _ => by rw [upd_ne (fun z : b = p => hb (by rw [z]; exact hp))]; exact e, fun b e => by
    by_cases hb : b = p
    · rw [hb, upd_same] at e; cases e
    · rw [upd_ne hb] at e; exact e,
    fun b xs e => by rw [upd_ne (ne_of e h (fun z => by rw [← z] at hm; exact hm))]; exact e, fun b w xs e => by rw [upd_ne (ne_of e h (fun z => by rw [← z] at hm; exact hm))]; exact e, fun b w xs e => by rw [upd_ne (ne_of e h (fun z => by rw [← z] at hm; exact hm))]; exact e⟩
theorem Ext.sub (x : Ext ρ H ρ1 H1) {n : Nat} (h : ρ[n]? = some a) : ρ1[n]? = some a := by
  obtain ⟨m, e, _⟩ := x.pre
  rw [e, List.getElem?_append_left (List.getElem?_eq_some_iff.mp h).1]
  exact h
theorem Ext.sqT (x : Ext ρ H ρ1 H1) (h : SqT K H a xs) : SqT K H1 a xs := by
  rcases h with (h | ⟨o, h⟩) | h
  · exact .inl (.inl (x.tups _ _ h))
  · exact .inl (.inr ⟨o, x.frzt _ _ _ h⟩)
  · exact .inr h
theorem Ext.fzL (x : Ext ρ H ρ1 H1) (h : FzL K H a xs) : FzL K H1 a xs := by
  rcases h with ⟨o, h⟩ | h
  · exact .inl ⟨o, x.frzs _ _ _ h⟩
  · exact .inr h
/-- what the reading of values leans on -/
structure Up (K : PySem.W.Frag) (ρ : List Addr) (H : Hp) (ρ' : List Addr) (H' : Hp) : Prop where
  sub : ∀ (n : Nat) (a : Addr), ρ[n]? = some a → ρ'[n]? = some a
  sqT : ∀ (a : Addr) (xs : List V), SqT K H a xs → SqT K H' a xs
  fzL : ∀ (a : Addr) (xs : List V), FzL K H a xs → FzL K H' a xs
theorem Ext.up (x : Ext ρ H ρ1 H1) : Up K ρ H ρ1 H1 := ⟨fun _ _ h => x.sub h, fun _ _ h => x.sqT h, fun _ _ h => x.fzL h⟩
theorem Up.more {m : List Addr} : Up K ρ H (ρ ++ m) H := ⟨fun n a h => by rw [List.getElem?_append_left (List.getElem?_eq_some_iff.mp h).1]; exact h, fun _ _ h => h, fun _ _ h => h⟩
mutual
theorem RV.up (x : Up K ρ H ρ1 H1) : ∀ {v : V} {d : D}, RV K ρ H v d → RV K ρ1 H1 v d
  | _, _, .non => .non
  | _, _, .bl b => .bl b
  | _, _, .int i => .int i
  | _, _, .str z => .str z
  | _, _, .tup h hl r => .tup (x.sqT _ _ h) hl (RVs.up x r)
  | _, _, .loc h => .loc (x.sub _ _ h)
  | _, _, .fz h hl r => .fz (x.fzL _ _ h) hl (RVs.up x r)
  | _, _, .ty n => .ty n
  | _, _, .adr a => .adr a
theorem RVs.up (x : Up K ρ H ρ1 H1) : ∀ {vs : List V} {ds : List D}, RVs K ρ H vs ds → RVs K ρ1 H1 vs ds
  | _, _, .nil => .nil
  | _, _, .cons h t => .cons (RV.up x h) (RVs.up x t)
end
theorem RV.ext (x : Ext ρ H ρ1 H1) {v : V} {d : D} (r : RV K ρ H v d) : RV K ρ1 H1 v d := r.up x.up
theorem RVs.ext (x : Ext ρ H ρ1 H1) {vs : List V} {ds : List D} (r : RVs K ρ H vs ds) : RVs K ρ1 H1 vs ds := r.up x.up
theorem RVs.length : ∀ {vs : List V} {ds : List D}, RVs K ρ H vs ds → vs.length = ds.length
  | _, _, .nil => rfl
  | _, _, .cons _ t => by simp [RVs.length t]
theorem RVs.append : ∀ {vs : List V} {ds : List D} {ws : List V} {es : List D}, RVs K ρ H vs ds → RVs K ρ H ws es → RVs K ρ H (vs ++ ws) (ds ++ es)
  | _, _, _, _, .nil, s => s
  | _, _, _, _, .cons h t, s => .cons h (RVs.append t s)
theorem RVs.snoc (r : RVs K ρ H vs ds) (h : RV K ρ H v d) : RVs K ρ H (vs ++ [v]) (ds ++ [d]) := r.append (.cons h .nil)
theorem RVs.get : ∀ {vs : List V} {ds : List D} {i : Nat} {v : V}, RVs K ρ H vs ds → vs[i]? = some v → ∃ d, ds[i]? = some d ∧ RV K ρ H v d
  | _, _, _, _, .nil, e => by simp at e
  | _, _, 0, _, .cons h t, e => by simp at e; subst e; exact ⟨_, rfl, h⟩
  | _, _, i + 1, v, .cons h t, e => by
    obtain ⟨d, h1, h2⟩ := RVs.get (i := i) (v := v) t (by simpa using e)
    exact ⟨d, by simpa using h1, h2⟩
theorem RVs.getD : ∀ {vs : List V} {ds : List D} {i : Nat} {d : D}, RVs K ρ H vs ds → ds[i]? = some d → ∃ v, vs[i]? = some v ∧ RV K ρ H v d
  | _, _, _, _, .nil, e => by simp at e
  | _, _, 0, _, .cons h t, e => by simp at e; subst e; exact ⟨_, rfl, h⟩
  | _, _, i + 1, d, .cons h t, e => by
    obtain ⟨v, h1, h2⟩ := RVs.getD (i := i) (d := d) t (by simpa using e)
    exact ⟨v, by simpa using h1, h2⟩
theorem RVs.take : ∀ {vs : List V} {ds : List D} (n : Nat), RVs K ρ H vs ds → RVs K ρ H (vs.take n) (ds.take n)
  | _, _, 0, _ => .nil
  | _, _, _ + 1, .nil => .nil
  | _, _, n + 1, .cons h t => .cons h (RVs.take n t)
theorem RVs.drop : ∀ {vs : List V} {ds : List D} (n : Nat), RVs K ρ H vs ds → RVs K ρ H (vs.drop n) (ds.drop n)
  | _, _, 0, h => h
  | _, _, _ + 1, .nil => .nil
  | _, _, n + 1, .cons _ t => RVs.drop n t
theorem RVs.set (h : RV K ρ H v d) : ∀ {vs : List V} {ds : List D} (n : Nat), RVs K ρ H vs ds → RVs K ρ H (vs.set n v) (ds.set n d)
  | _, _, _, .nil => .nil
  | _, _, 0, .cons _ t => .cons h t
  | _, _, n + 1, .cons r t => .cons r (RVs.set h n t)
theorem RVs.eraseIdx : ∀ {vs : List V} {ds : List D} (n : Nat), RVs K ρ H vs ds → RVs K ρ H (vs.eraseIdx n) (ds.eraseIdx n)
  | _, _, _, .nil => .nil
  | _, _, 0, .cons _ t => t
  | _, _, n + 1, .cons r t => .cons r (RVs.eraseIdx n t)
theorem RVs.ints : ∀ {vs : List V} {is : List Int}, RVs K ρ H vs (is.map D.int) → vs = is.map V.int
  | _, [], .nil => rfl
  | _, _ :: _, .cons h t => by cases h; simp [RVs.ints t]
theorem RVs.ofInts : ∀ (is : List Int), RVs K ρ H (is.map V.int) (is.map D.int)
  | [] => .nil
  | i :: is => .cons (.int i) (RVs.ofInts is)
theorem RVs.bls : ∀ {vs : List V} {is : List Bool}, RVs K ρ H vs (is.map D.bl) → vs = is.map V.bl
  | _, [], .nil => rfl
  | _, _ :: _, .cons h t => by cases h; simp [RVs.bls t]
end

/-- keys alike, values borne -/
inductive RKs {κ : Type} (K : PySem.W.Frag) (ρ : List Addr) (H : Hp) : List (κ × V) → List (κ × D) → Prop
  | nil : RKs K ρ H [] []
  | cons {k : κ} {v : V} {d : D} {vs : List (κ × V)} {ds : List (κ × D)} : RV K ρ H v d → RKs K ρ H vs ds → RKs K ρ H ((k, v) :: vs) ((k, d) :: ds)
section
variable {κ : Type} {K : PySem.W.Frag} {ρ ρ1 ρ2 ρ' : List Addr} {H H1 H2 H' : Hp} {a p : Addr}
theorem RKs.up (x : Up K ρ H ρ1 H1) : ∀ {vs : List (κ × V)} {ds : List (κ × D)}, RKs K ρ H vs ds → RKs K ρ1 H1 vs ds
  | _, _, .nil => .nil
  | _, _, .cons h t => .cons (h.up x) (RKs.up x t)
theorem RKs.ext (x : Ext ρ H ρ1 H1) {vs : List (κ × V)} {ds : List (κ × D)} (r : RKs K ρ H vs ds) : RKs K ρ1 H1 vs ds := r.up x.up
theorem RKs.length : ∀ {vs : List (κ × V)} {ds : List (κ × D)}, RKs K ρ H vs ds → vs.length = ds.length
  | _, _, .nil => rfl
  | _, _, .cons _ t => by simp [RKs.length t]
theorem RKs.keys : ∀ {vs : List (κ × V)} {ds : List (κ × D)}, RKs K ρ H vs ds → vs.map (·.1) = ds.map (·.1)
  | _, _, .nil => rfl
  | _, _, .cons _ t => by simp [RKs.keys t]
end

/-- the classes of the text by their names -/
structure Clss where
  f : Str → Option Addr
  T : List (Addr × Str)
  X : List (Addr × HO)
instance : CoeFun Clss (fun _ => Str → Option Addr) := ⟨Clss.f⟩
/-- what is known and never changed: objects that are no values of ours -/
def IsExt : HO → Prop
  | .ext _ => True
  | _ => False
def Known (Γ : Clss) (H : Hp) : Prop := LamX.Tabs Γ.T H ∧ ∀ p ∈ Γ.X, H p.1 = some p.2 ∧ IsExt p.2
theorem Known.upd {Γ : Clss} {H : Hp} {p : Addr} {o : HO} (h : Known Γ H) (hp : ∀ u, H p = some u → (∀ ps, u ≠ .tbl ps) ∧ ¬ IsExt u) : Known Γ (upd H p o) := by
  have nt : ∀ b ps, H b = some (.tbl ps) → b ≠ p := fun b ps e z => (hp _ (z ▸ e)).1 ps rfl
  have ne : ∀ b u, H b = some u → IsExt u → b ≠ p := fun b u e x z => (hp _ (z ▸ e)).2 x
  refine ⟨fun q hq => ?_, fun q hq => ?_⟩
  · obtain ⟨ps, h1, h2, h3⟩ := h.1 q hq
    refine ⟨ps, by rw [upd_ne (nt _ _ h1)]; exact h1, h2, fun pos cv hc => ?_⟩
    obtain ⟨c, e1, e2⟩ := h3 pos cv hc
    exact ⟨c, e1, by rw [upd_ne (ne _ _ e2 trivial)]; exact e2⟩
  · obtain ⟨h1, h2⟩ := h.2 q hq
    exact ⟨by rw [upd_ne (ne _ _ h1 h2)]; exact h1, h2⟩
theorem Known.new {Γ : Clss} {H : Hp} {p : Addr} {o : HO} (h : Known Γ H) (hp : H p = none) : Known Γ (L2.upd H p o) := h.upd fun u e => by rw [hp] at e; cases e
theorem mut_plain {u : HO} (h : IsMut u) : (∀ ps, u ≠ .tbl ps) ∧ ¬ IsExt u := by
  refine ⟨fun ps z => ?_, fun z => ?_⟩
  · rw [z] at h; exact h
  · cases u with
    | ext _ => exact h
    | _ => exact z
/-- the object at a is what the store says -/
inductive OR (K : PySem.W.Frag) (Γ : Clss) (ρ : List Addr) (H : Hp) (a : Addr) : Ob → Prop
  | lst {xs : List V} {ds : List D} : H a = some (.lst xs) → xs.length ≤ sizeLine → RVs K ρ H xs ds → OR K Γ ρ H a (.lst ds)
  | dk {kvs : List (Key × V)} {es : List (Key × D)} : H a = some (.dK kvs) → RKs K ρ H kvs es → OR K Γ ρ H a (.dk es)
  | ins {c : Str} {C dx : Addr} {fv : List (Str × V)} {fs : List (Str × D)} : Γ c = some C → H a = some (.ins C dx fv) → RKs K ρ H fv fs → OR K Γ ρ H a (.ins c fs)

structure SR (K : PySem.W.Frag) (Γ : Clss) (ρ : List Addr) (μ : Store) (H : Hp) : Prop where
  len : ρ.length = μ.length
  nd : ρ.Nodup
  obs : ∀ (n : Nat) (a : Addr) (o : Ob), ρ[n]? = some a → μ[n]? = some o → OR K Γ ρ H a o
  kn : Known Γ H

section
variable {K : PySem.W.Frag} {Γ : Clss} {ρ ρ1 ρ2 ρ' : List Addr} {H H1 H2 H' : Hp} {a p : Addr} {μ μ' : Store} {o : Ob} {n : Nat} {ho : HO}
theorem OR.there (x : OR K Γ ρ H a o) : ∃ u, H a = some u ∧ IsMut u := by
  cases x with
  | lst h _ _ => exact ⟨_, h, trivial⟩
  | dk h _ => exact ⟨_, h, trivial⟩
  | ins _ h _ => exact ⟨_, h, trivial⟩
theorem OR.up (x : OR K Γ ρ H a o) (e : Up K ρ H ρ1 H1) (ha : H1 a = H a) : OR K Γ ρ1 H1 a o := by
  cases x with
  | lst h hl r => exact .lst (ha.trans h) hl (r.up e)
  | dk h r => exact .dk (ha.trans h) (r.up e)
  | ins g h r => exact .ins g (ha.trans h) (r.up e)
theorem OR.ext (x : OR K Γ ρ H a o) (e : Ext ρ H ρ1 H1) (ha : H1 a = H a) : OR K Γ ρ1 H1 a o := x.up e.up ha
theorem SR.ob (S : SR K Γ ρ μ H) (h : ρ[n]? = some a) : ∃ o, μ[n]? = some o ∧ OR K Γ ρ H a o := by
  have hn : n < μ.length := by rw [← S.len]; exact (List.getElem?_eq_some_iff.mp h).1
  exact ⟨μ[n], List.getElem?_eq_getElem hn, S.obs n a _ h (List.getElem?_eq_getElem hn)⟩
theorem SR.ad (S : SR K Γ ρ μ H) (h : μ[n]? = some o) : ∃ a, ρ[n]? = some a ∧ OR K Γ ρ H a o := by
  have hn : n < ρ.length := by rw [S.len]; exact (List.getElem?_eq_some_iff.mp h).1
  exact ⟨ρ[n], List.getElem?_eq_getElem hn, S.obs n _ o (List.getElem?_eq_getElem hn) h⟩
theorem SR.known (S : SR K Γ ρ μ H) (h : a ∈ ρ) : ∃ u, H a = some u ∧ IsMut u := by
  obtain ⟨n, hn, e⟩ := List.mem_iff_getElem.mp h
  obtain ⟨o, _, x⟩ := S.ob (n := n) (a := a) (by rw [List.getElem?_eq_getElem hn, e])
  exact x.there
theorem SR.fresh (S : SR K Γ ρ μ H) (h : H p = none) : p ∉ ρ := fun z => by
  obtain ⟨u, e, _⟩ := S.known z
  rw [h] at e; cases e
/-- a new object that the store does not know -/
theorem SR.new (S : SR K Γ ρ μ H) (h : H p = none) : SR K Γ ρ μ (upd H p ho) := by
  refine ⟨S.len, S.nd, fun n a o hn ho' => ?_, S.kn.new h⟩
  have x := S.obs n a o hn ho'
  obtain ⟨u, e, _⟩ := x.there
  exact x.ext (Ext.new h) (upd_ne (ne_of_none e h))
/-- an object of the store is changed -/
theorem SR.write (S : SR K Γ ρ μ H) (hn : ρ[n]? = some a) (x : OR K Γ ρ (upd H a ho) a o) : SR K Γ ρ (μ.set n o) (upd H a ho) := by
  have ha : a ∈ ρ := List.mem_of_getElem? hn
  obtain ⟨u, e, m⟩ := S.known ha
  refine ⟨by rw [List.length_set]; exact S.len, S.nd, fun j b w hj hw => ?_, S.kn.upd fun w q => by rw [e] at q; cases q; exact mut_plain m⟩
  by_cases hjn : j = n
  · subst hjn
    rw [hn] at hj; cases hj
    rw [List.getElem?_set_self (by rw [← S.len]; exact (List.getElem?_eq_some_iff.mp hn).1)] at hw
    cases hw
    exact x
  · rw [List.getElem?_set_ne (Ne.symm hjn)] at hw
    have y := S.obs j b w hj hw
    have hb : b ≠ a := fun z => by
      subst z
      obtain ⟨h1, e1⟩ := List.getElem?_eq_some_iff.mp hj
      obtain ⟨h2, e2⟩ := List.getElem?_eq_some_iff.mp hn
      exact hjn ((List.getElem_inj S.nd).mp (e1.trans e2.symm))
    exact y.ext (Ext.write ha e m) (upd_ne hb)
/-- an object at a known new address is taken into the store -/
theorem SR.adopt (S : SR K Γ ρ μ H) (hp : p ∉ ρ) (x : OR K Γ ρ H p o) : SR K Γ (ρ ++ [p]) (μ ++ [o]) H := by
  refine ⟨by rw [List.length_append, List.length_append, S.len]; rfl, List.nodup_append.mpr ⟨S.nd, List.nodup_cons.mpr ⟨by simp, List.nodup_nil⟩, fun b hb c hc z => hp (by rw [← List.mem_singleton.mp hc, ← z]; exact hb)⟩, fun j b w hj hw => ?_, S.kn⟩
  by_cases h : j < ρ.length
  · rw [List.getElem?_append_left h] at hj
    rw [List.getElem?_append_left (by rw [← S.len]; exact h)] at hw
    exact (S.obs j b w hj hw).up Up.more rfl
  · have h1 : j < (ρ ++ [p]).length := (List.getElem?_eq_some_iff.mp hj).1
    have e : j = ρ.length := by rw [List.length_append, List.length_singleton] at h1; omega
    subst e
    rw [List.getElem?_append_right (Nat.le_refl _), Nat.sub_self] at hj
    rw [List.getElem?_append_right (by rw [S.len]; exact Nat.le_refl _), S.len, Nat.sub_self] at hw
    cases hj; cases hw
    exact x.up Up.more rfl
end
end Sim

set_option autoImplicit false
/-! Sim, part 2: what a piece of the program computes, as a plain function over the store; readings that are borne out by it. -/
namespace Sim
open PySem L2

structure Exn where
  cls : Str
  fs : List (Str × D)

/-- what a run gives: a value and the store behind it; an exception; or it is not told -/
inductive Rs (α : Type) where
  | ok (a : α) (μ : Store)
  | ex (x : Exn) (μ : Store)
  | stuck
abbrev Mn (α : Type) := Store → Rs α
def ret {α : Type} (a : α) : Mn α := fun μ => .ok a μ
def bnd {α β : Type} (m : Mn α) (f : α → Mn β) : Mn β := fun μ => match m μ with
  | .ok a μ' => f a μ'
  | .ex x μ' => .ex x μ'
  | .stuck => .stuck
def stk {α : Type} : Mn α := fun _ => .stuck
theorem bnd_ok {α β : Type} {m : Mn α} {f : α → Mn β} {μ μ' : Store} {a : α} (h : m μ = .ok a μ') : bnd m f μ = f a μ' := by unfold bnd; rw [h]
@[simp] theorem ret_app {α : Type} (a : α) (μ : Store) : ret a μ = .ok a μ := rfl
@[simp] theorem stk_app {α : Type} (μ : Store) : (stk : Mn α) μ = .stuck := rfl
@[simp] theorem bnd_ret {α β : Type} (a : α) (f : α → Mn β) : bnd (ret a) f = f a := rfl
@[simp] theorem bnd_stk {α β : Type} (f : α → Mn β) : bnd (stk : Mn α) f = stk := rfl

abbrev EG := Dn → Mn D
abbrev BG := Dn → Mn Bool
abbrev AG := Dn → Mn (List D)

/-- an exception's own dict -/
def XD (K : PySem.W.Frag) (ρ : List Addr) (H : Hp) (od : Option Addr) (fs : List (Str × D)) : Prop := match od with
  | none => fs = []
  | some d => fs ≠ [] ∧ ∃ fv, H d = some (.xd fv) ∧ RKs K ρ H fv fs

/-- what is wanted behind a run: for every heap that bears what it gives -/
def Post {α β : Type} (K : PySem.W.Frag) (Γ : Clss) (E : XK) (Rl : List Addr → Hp → β → α → Prop) (ρ : List Addr) (H : Hp) (r : Rs α) (Q : β → Hp → Prop) : Prop := match r with
  | .ok a μ' => ∀ (b : β) (ρ' : List Addr) (H' : Hp), Ext ρ H ρ' H' → SR K Γ ρ' μ' H' → Rl ρ' H' b a → Q b H'
  | .ex x μ' => ∀ (ρ' : List Addr) (H' : Hp) (C : Addr) (od : Option Addr), Ext ρ H ρ' H' → SR K Γ ρ' μ' H' → Γ x.cls = some C → XD K ρ' H' od x.fs → E (.ref C) od H'
  | .stuck => False

structure ER (K : PySem.W.Frag) (ρ : List Addr) (H : Hp) (σ : L2.St) (δ : Dn) : Prop where
  len : σ.length = δ.length
  get : ∀ (i : Nat) (d : D), δ[i]? = some (some d) → ∃ v, σ[i]? = some (some v) ∧ RV K ρ H v d

section
variable {K : PySem.W.Frag} {Γ : Clss} {E : XK} {ρ ρ1 ρ2 ρ' : List Addr} {H H1 H2 H' : Hp} {μ μ1 : Store} {σ : L2.St} {δ : Dn}
theorem ER.ext (x : Ext ρ H ρ1 H1) (e : ER K ρ H σ δ) : ER K ρ1 H1 σ δ := ⟨e.len, fun i d h => let ⟨v, h1, h2⟩ := e.get i d h; ⟨v, h1, h2.ext x⟩⟩
theorem ER.set {i : Nat} {v : V} {d : D} (e : ER K ρ H σ δ) (h : RV K ρ H v d) : ER K ρ H (σ.set i (some v)) (δ.set i (some d)) := by
  refine ⟨by simp [e.len], fun j c hj => ?_⟩
  by_cases hij : i = j
  · subst hij
    have hi : i < δ.length := by
      have := (List.getElem?_eq_some_iff.mp hj).1
      rwa [List.length_set] at this
    rw [List.getElem?_set_self hi] at hj
    cases hj
    exact ⟨v, by rw [List.getElem?_set_self (by rw [e.len]; exact hi)], h⟩
  · rw [List.getElem?_set_ne hij] at hj ⊢
    exact e.get j c hj
/-- the slots of a block's own names forgotten -/
def wipeD (δ : Dn) : List Nat → Dn
  | [] => δ
  | v :: vs => (wipeD δ vs).set v none
theorem ER.wipe (e : ER K ρ H σ δ) : ∀ vs : List Nat, ER K ρ H (wipe σ vs) (wipeD δ vs)
  | [] => e
  | v :: vs => by
    have ih := ER.wipe e vs
    unfold L2.wipe wipeD
    refine ⟨by simp [ih.len], fun j c hj => ?_⟩
    by_cases hij : v = j
    · subst hij
      by_cases hv : v < (wipeD δ vs).length
      · rw [List.getElem?_set_self hv] at hj; cases hj
      · rw [List.getElem?_eq_none (by simpa using hv)] at hj; cases hj
    · rw [List.getElem?_set_ne hij] at hj ⊢
      exact ih.get j c hj
theorem Post.weak {α β : Type} {Rl : List Addr → Hp → β → α → Prop} {r : Rs α} {Q : β → Hp → Prop} (x : Ext ρ H ρ1 H1) (h : Post K Γ E Rl ρ H r Q) : Post K Γ E Rl ρ1 H1 r Q := by
  cases r with
  | ok a μ' => exact fun b ρ' H' e s r => h b ρ' H' (x.trans e) s r
  | ex y μ' => exact fun ρ' H' C od e s g d => h ρ' H' C od (x.trans e) s g d
  | stuck => exact h
theorem Post.mono {α β : Type} {Rl : List Addr → Hp → β → α → Prop} {r : Rs α} {Q Q' : β → Hp → Prop} (h : Post K Γ E Rl ρ H r Q) (hq : ∀ b H', Q b H' → Q' b H') : Post K Γ E Rl ρ H r Q' := by
  cases r with
  | ok a μ' => exact fun b ρ' H' e s r => hq b H' (h b ρ' H' e s r)
  | ex y μ' => exact h
  | stuck => exact h
end

/-! ### readings that a function bears out -/
abbrev RelB : List Addr → Hp → Bool → Bool → Prop := fun _ _ b c => b = c
abbrev RelO : List Addr → Hp → Option Int → Option Int → Prop := fun _ _ b c => b = c
/-- a new list: it is not in the store, and it did not stand at H₀ -/
def RelL (K : PySem.W.Frag) (H₀ : Hp) : List Addr → Hp → V → List D → Prop := fun ρ H v ds => ∃ (p : Addr) (xs : List V), v = .ref p ∧ H₀ p = none ∧ p ∉ ρ ∧ H p = some (.lst xs) ∧ xs.length ≤ sizeLine ∧ RVs K ρ H xs ds

def SimE (K : PySem.W.Frag) (Γ : Clss) (E : XK) (t : TE) (F : EG) : Prop :=
  ∀ (ρ : List Addr) (μ : Store) (δ : Dn) (σ : L2.St) (H : Hp), SR K Γ ρ μ H → ER K ρ H σ δ → ∀ Q : VK, Post K Γ E (RV K) ρ H (F δ μ) Q → t σ H Q
def SimT (K : PySem.W.Frag) (Γ : Clss) (E : XK) (t : TT) (F : BG) : Prop :=
  ∀ (ρ : List Addr) (μ : Store) (δ : Dn) (σ : L2.St) (H : Hp), SR K Γ ρ μ H → ER K ρ H σ δ → ∀ Q : Bool → Hp → Prop, Post K Γ E RelB ρ H (F δ μ) Q → t σ H Q
def SimA (K : PySem.W.Frag) (Γ : Clss) (E : XK) (t : TA) (F : AG) : Prop :=
  ∀ (ρ : List Addr) (μ : Store) (δ : Dn) (σ : L2.St) (H : Hp), SR K Γ ρ μ H → ER K ρ H σ δ → ∀ Q : List V → Hp → Prop, Post K Γ E (RVs K) ρ H (F δ μ) Q → t σ H Q
def SimO (K : PySem.W.Frag) (Γ : Clss) (E : XK) (t : TO) (F : Dn → Mn (Option Int)) : Prop :=
  ∀ (ρ : List Addr) (μ : Store) (δ : Dn) (σ : L2.St) (H : Hp), SR K Γ ρ μ H → ER K ρ H σ δ → ∀ Q : Option Int → Hp → Prop, Post K Γ E RelO ρ H (F δ μ) Q → t σ H Q
def SimL (K : PySem.W.Frag) (Γ : Clss) (E : XK) (t : TE) (F : AG) : Prop :=
  ∀ (ρ : List Addr) (μ : Store) (δ : Dn) (σ : L2.St) (H : Hp), SR K Γ ρ μ H → ER K ρ H σ δ → ∀ Q : VK, Post K Γ E (RelL K H) ρ H (F δ μ) Q → t σ H Q

section
variable {K : PySem.W.Frag} {Γ : Clss} {E : XK} {ρ ρ1 ρ2 ρ' : List Addr} {H H1 H2 H' : Hp} {μ μ1 : Store} {σ : L2.St} {δ : Dn}
variable {ta tb tc : TE} {Fa Fb Fc : EG} {La Lb : AG}
/-- THE STEP: behind a part that bears out m, go on with what f makes of its value -/
theorem go {α β γ ζ : Type} {Rl : List Addr → Hp → β → α → Prop} {Rm : List Addr → Hp → ζ → γ → Prop} {m : Mn γ} {f : γ → Mn α} {Q : β → Hp → Prop} {P : ζ → Hp → Prop} {T : (ζ → Hp → Prop) → Prop}
    (h : ∀ P : ζ → Hp → Prop, Post K Γ E Rm ρ H (m μ) P → T P) (hp : Post K Γ E Rl ρ H (bnd m f μ) Q)
    (k : ∀ (b : ζ) (a : γ) (ρ1 : List Addr) (μ1 : Store) (H1 : Hp), Ext ρ H ρ1 H1 → SR K Γ ρ1 μ1 H1 → Rm ρ1 H1 b a → Post K Γ E Rl ρ1 H1 (f a μ1) Q → P b H1) : T P := by
  refine h P ?_
  unfold bnd at hp
  cases e : m μ with
  | ok a μ' =>
    rw [e] at hp
    exact fun b ρ' H' x s r => k b a ρ' μ' H' x s r (hp.weak x)
  | ex y μ' => rw [e] at hp; exact hp
  | stuck => rw [e] at hp; exact hp.elim
theorem SimE.go {α β : Type} {Rl : List Addr → Hp → β → α → Prop} {f : D → Mn α} {Q : β → Hp → Prop} {P : VK} (h : SimE K Γ E ta Fa) (S : SR K Γ ρ μ H) (e : ER K ρ H σ δ) (hp : Post K Γ E Rl ρ H (bnd (Fa δ) f μ) Q)
    (k : ∀ (v : V) (d : D) (ρ1 : List Addr) (μ1 : Store) (H1 : Hp), Ext ρ H ρ1 H1 → SR K Γ ρ1 μ1 H1 → RV K ρ1 H1 v d → Post K Γ E Rl ρ1 H1 (f d μ1) Q → P v H1) : ta σ H P :=
  Sim.go (T := fun P => ta σ H P) (h ρ μ δ σ H S e) hp k
theorem SimL.go {α β : Type} {Rl : List Addr → Hp → β → α → Prop} {f : List D → Mn α} {Q : β → Hp → Prop} {P : VK} (h : SimL K Γ E ta La) (S : SR K Γ ρ μ H) (e : ER K ρ H σ δ) (hp : Post K Γ E Rl ρ H (bnd (La δ) f μ) Q)
    (k : ∀ (v : V) (d : List D) (ρ1 : List Addr) (μ1 : Store) (H1 : Hp), Ext ρ H ρ1 H1 → SR K Γ ρ1 μ1 H1 → RelL K H ρ1 H1 v d → Post K Γ E Rl ρ1 H1 (f d μ1) Q → P v H1) : ta σ H P :=
  Sim.go (T := fun P => ta σ H P) (h ρ μ δ σ H S e) hp k
theorem SimA.go {α β : Type} {Rl : List Addr → Hp → β → α → Prop} {t : TA} {f : List D → Mn α} {Q : β → Hp → Prop} {P : List V → Hp → Prop} (h : SimA K Γ E t La) (S : SR K Γ ρ μ H) (e : ER K ρ H σ δ) (hp : Post K Γ E Rl ρ H (bnd (La δ) f μ) Q)
    (k : ∀ (v : List V) (d : List D) (ρ1 : List Addr) (μ1 : Store) (H1 : Hp), Ext ρ H ρ1 H1 → SR K Γ ρ1 μ1 H1 → RVs K ρ1 H1 v d → Post K Γ E Rl ρ1 H1 (f d μ1) Q → P v H1) : t σ H P :=
  Sim.go (T := fun P => t σ H P) (h ρ μ δ σ H S e) hp k
theorem SimT.go {α β : Type} {Rl : List Addr → Hp → β → α → Prop} {t : TT} {B : BG} {f : Bool → Mn α} {Q : β → Hp → Prop} {P : Bool → Hp → Prop} (h : SimT K Γ E t B) (S : SR K Γ ρ μ H) (e : ER K ρ H σ δ) (hp : Post K Γ E Rl ρ H (bnd (B δ) f μ) Q)
    (k : ∀ (b : Bool) (ρ1 : List Addr) (μ1 : Store) (H1 : Hp), Ext ρ H ρ1 H1 → SR K Γ ρ1 μ1 H1 → Post K Γ E Rl ρ1 H1 (f b μ1) Q → P b H1) : t σ H P :=
  Sim.go (T := fun P => t σ H P) (h ρ μ δ σ H S e) hp fun b c ρ1 μ1 H1 x s r hq => by cases r; exact k b ρ1 μ1 H1 x s hq
theorem SimO.go {α β : Type} {Rl : List Addr → Hp → β → α → Prop} {t : TO} {B : Dn → Mn (Option Int)} {f : Option Int → Mn α} {Q : β → Hp → Prop} {P : Option Int → Hp → Prop} (h : SimO K Γ E t B) (S : SR K Γ ρ μ H) (e : ER K ρ H σ δ) (hp : Post K Γ E Rl ρ H (bnd (B δ) f μ) Q)
    (k : ∀ (b : Option Int) (ρ1 : List Addr) (μ1 : Store) (H1 : Hp), Ext ρ H ρ1 H1 → SR K Γ ρ1 μ1 H1 → Post K Γ E Rl ρ1 H1 (f b μ1) Q → P b H1) : t σ H P :=
  Sim.go (T := fun P => t σ H P) (h ρ μ δ σ H S e) hp fun b c ρ1 μ1 H1 x s r hq => by cases r; exact k b ρ1 μ1 H1 x s hq

/-! ### names, constants -/
def vG (i : Nat) : EG := fun δ => match δ[i]? with
  | some (some d) => ret d
  | _ => stk
theorem sim_var {i : Nat} : SimE K Γ E (tVar i) (vG i) := fun ρ μ δ σ H S e Q hp => by
  unfold vG at hp
  cases h : δ[i]? with
  | none => rw [h] at hp; exact hp.elim
  | some o =>
    cases o with
    | none => rw [h] at hp; exact hp.elim
    | some d =>
      rw [h] at hp
      obtain ⟨v, h1, h2⟩ := e.get i d h
      exact ⟨v, h1, hp v ρ H Ext.refl S h2⟩
def cG (d : D) : EG := fun _ => ret d
theorem sim_c {v : V} {d : D} (h : ∀ ρ H, RV K ρ H v d) : SimE K Γ E (tC v) (cG d) := fun ρ μ δ σ H S e Q hp => hp v ρ H Ext.refl S (h ρ H)
theorem sim_int {i : Int} : SimE K Γ E (tC (.int i)) (cG (.int i)) := sim_c fun _ _ => .int i
theorem sim_bl {b : Bool} : SimE K Γ E (tC (.bl b)) (cG (.bl b)) := sim_c fun _ _ => .bl b
theorem sim_non : SimE K Γ E (tC .non) (cG .non) := sim_c fun _ _ => .non
theorem sim_str {x : Str} : SimE K Γ E (tC (.str x)) (cG (.str x)) := sim_c fun _ _ => .str x
theorem sim_ty {n : String} : SimE K Γ E (tC (.ty n)) (cG (.ty n)) := sim_c fun _ _ => .ty n
theorem sim_adr {a : Addr} : SimE K Γ E (tC (.ref a)) (cG (.adr a)) := sim_c fun _ _ => .adr a

/-! ### two values, one value, several -/
def OpS (K : PySem.W.Frag) (Γ : Clss) (E : XK) (r : R2) (g : D → D → Mn D) : Prop :=
  ∀ (ρ : List Addr) (μ : Store) (H : Hp) (v w : V) (d e : D) (Q : VK), SR K Γ ρ μ H → RV K ρ H v d → RV K ρ H w e → Post K Γ E (RV K) ρ H (g d e μ) Q → r v w H Q
def opG (g : D → D → Mn D) (a b : EG) : EG := fun δ => bnd (a δ) fun x => bnd (b δ) fun y => g x y
theorem sim_op {r : R2} {g : D → D → Mn D} (hr : OpS K Γ E r g) (ha : SimE K Γ E ta Fa) (hb : SimE K Γ E tb Fb) : SimE K Γ E (tOp r ta tb) (opG g Fa Fb) := fun ρ μ δ σ H S e Q hp => by
  refine ha.go S e hp fun v d ρ1 μ1 H1 x1 S1 r1 hp1 => ?_
  refine hb.go S1 (e.ext x1) hp1 fun w c ρ2 μ2 H2 x2 S2 r2 hp2 => ?_
  exact hr ρ2 μ2 H2 v w d c Q S2 (r1.ext x2) r2 hp2
def UnS (K : PySem.W.Frag) (Γ : Clss) (E : XK) (r : V → Hp → VK → Prop) (g : D → Mn D) : Prop :=
  ∀ (ρ : List Addr) (μ : Store) (H : Hp) (v : V) (d : D) (Q : VK), SR K Γ ρ μ H → RV K ρ H v d → Post K Γ E (RV K) ρ H (g d μ) Q → r v H Q
def unG (g : D → Mn D) (a : EG) : EG := fun δ => bnd (a δ) g
theorem sim_un {r : V → Hp → VK → Prop} {g : D → Mn D} (hr : UnS K Γ E r g) (ha : SimE K Γ E ta Fa) : SimE K Γ E (tUn r ta) (unG g Fa) := fun ρ μ δ σ H S e Q hp =>
  ha.go S e hp fun v d ρ1 μ1 H1 x1 S1 r1 hp1 => hr ρ1 μ1 H1 v d Q S1 r1 hp1
def CaS (K : PySem.W.Frag) (Γ : Clss) (E : XK) (r : List V → Hp → VK → Prop) (g : List D → Mn D) : Prop :=
  ∀ (ρ : List Addr) (μ : Store) (H : Hp) (vs : List V) (ds : List D) (Q : VK), SR K Γ ρ μ H → RVs K ρ H vs ds → Post K Γ E (RV K) ρ H (g ds μ) Q → r vs H Q
def caG (g : List D → Mn D) (a : AG) : EG := fun δ => bnd (a δ) g
theorem sim_cb {r : List V → Hp → VK → Prop} {t : TA} {g : List D → Mn D} (hr : CaS K Γ E r g) (ha : SimA K Γ E t La) : SimE K Γ E (tCB r t) (caG g La) := fun ρ μ δ σ H S e Q hp =>
  ha.go S e hp fun v d ρ1 μ1 H1 x1 S1 r1 hp1 => hr ρ1 μ1 H1 v d Q S1 r1 hp1

/-! ### arguments -/
def nilG : AG := fun _ => ret []
def consG (a : EG) (b : AG) : AG := fun δ => bnd (a δ) fun x => bnd (b δ) fun xs => ret (x :: xs)
theorem sim_nil : SimA K Γ E tNil nilG := fun ρ μ δ σ H S e Q hp => hp [] ρ H Ext.refl S .nil
theorem sim_cons {t : TA} (ha : SimE K Γ E ta Fa) (hb : SimA K Γ E t Lb) : SimA K Γ E (tCons ta t) (consG Fa Lb) := fun ρ μ δ σ H S e Q hp => by
  refine ha.go S e hp fun v d ρ1 μ1 H1 x1 S1 r1 hp1 => ?_
  refine hb.go S1 (e.ext x1) hp1 fun w c ρ2 μ2 H2 x2 S2 r2 hp2 => ?_
  exact hp2 (v :: w) ρ2 H2 Ext.refl S2 (.cons (r1.ext x2) r2)

/-! ### displays -/
def tupG (a : AG) : EG := fun δ => bnd (a δ) fun xs => if xs.length ≤ sizeLine then ret (.tup xs) else stk
theorem sim_tup {t : TA} (ha : SimA K Γ E t La) : SimE K Γ E (tTup t) (tupG La) := fun ρ μ δ σ H S e Q hp => by
  refine ha.go S e hp fun vs ds ρ1 μ1 H1 x1 S1 r1 hp1 => ?_
  by_cases hl : ds.length ≤ sizeLine
  · rw [if_pos hl] at hp1
    refine ⟨by rw [r1.length]; exact hl, fun p hpn => ?_⟩
    have x2 : Ext ρ1 H1 ρ1 (upd H1 p (.tup vs)) := Ext.new hpn
    exact hp1 _ ρ1 _ x2 (S1.new hpn) (.tup (.inl (.inl upd_same)) (by rw [r1.length]; exact hl) (r1.ext x2))
  · rw [if_neg hl] at hp1; exact hp1.elim
def lstG (a : AG) : AG := fun δ => bnd (a δ) fun xs => if xs.length ≤ sizeLine then ret xs else stk
theorem sim_lst {t : TA} (ha : SimA K Γ E t La) : SimL K Γ E (tLst t) (lstG La) := fun ρ μ δ σ H S e Q hp => by
  refine ha.go S e hp fun vs ds ρ1 μ1 H1 x1 S1 r1 hp1 => ?_
  by_cases hl : ds.length ≤ sizeLine
  · rw [if_pos hl] at hp1
    refine ⟨by rw [r1.length]; exact hl, fun p hpn => ?_⟩
    have x2 : Ext ρ1 H1 ρ1 (upd H1 p (.lst vs)) := Ext.new hpn
    exact hp1 _ ρ1 _ x2 (S1.new hpn) ⟨p, vs, rfl, x1.there p hpn, S1.fresh hpn, upd_same, by rw [r1.length]; exact hl, r1.ext x2⟩
  · rw [if_neg hl] at hp1; exact hp1.elim
/-- a new list is taken into the store -/
def allocG (a : AG) : EG := fun δ => bnd (a δ) fun xs μ => .ok (.loc μ.length) (μ ++ [.lst xs])
theorem sim_alloc (ha : SimL K Γ E ta La) : SimE K Γ E ta (allocG La) := fun ρ μ δ σ H S e Q hp => by
  refine ha ρ μ δ σ H S e Q ?_
  unfold allocG bnd at hp
  cases h : La δ μ with
  | ok ds μ' =>
    rw [h] at hp
    rintro v ρ' H' x S' ⟨p, xs, rfl, h0, hn, hl, hz, r⟩
    refine hp (.ref p) (ρ' ++ [p]) H' (x.adopt h0) (S'.adopt hn (.lst hl hz r)) (.loc ?_)
    rw [List.getElem?_append_right (by rw [S'.len]; exact Nat.le_refl _), S'.len, Nat.sub_self]; rfl
  | ex y μ' => rw [h] at hp; exact hp
  | stuck => rw [h] at hp; exact hp

/-! ### tests and truth values -/
def blG {α : Type} (d : D) (f : Bool → Mn α) : Mn α := match d with
  | .bl b => f b
  | _ => stk
def tB1 (a : EG) : BG := fun δ => bnd (a δ) fun d => blG d ret
theorem sim_tB (ha : SimE K Γ E ta Fa) : SimT K Γ E (tB ta) (tB1 Fa) := fun ρ μ δ σ H S e Q hp => by
  refine ha.go S e hp fun v d ρ1 μ1 H1 x1 S1 r1 hp1 => ?_
  cases r1 with
  | bl b => exact ⟨b, rfl, hp1 b ρ1 H1 Ext.refl S1 rfl⟩
  | _ => exact hp1.elim
theorem sim_tTest (ha : SimE K Γ E ta Fa) : SimT K Γ E (tTest ta) (tB1 Fa) := sim_tB ha
def andB (a b : BG) : BG := fun δ => bnd (a δ) fun c => if c = true then b δ else ret false
def orB (a b : BG) : BG := fun δ => bnd (a δ) fun c => if c = true then ret true else b δ
def notB (a : BG) : BG := fun δ => bnd (a δ) fun c => ret (!c)
theorem sim_tAnd {t u : TT} {A B : BG} (ha : SimT K Γ E t A) (hb : SimT K Γ E u B) : SimT K Γ E (tAnd t u) (andB A B) := fun ρ μ δ σ H S e Q hp => by
  refine ha.go S e hp fun c ρ1 μ1 H1 x1 S1 hp1 => ?_
  cases c with
  | true => exact hb ρ1 μ1 δ σ H1 S1 (e.ext x1) Q hp1
  | false => exact hp1 false ρ1 H1 Ext.refl S1 rfl
theorem sim_tOr {t u : TT} {A B : BG} (ha : SimT K Γ E t A) (hb : SimT K Γ E u B) : SimT K Γ E (tOr t u) (orB A B) := fun ρ μ δ σ H S e Q hp => by
  refine ha.go S e hp fun c ρ1 μ1 H1 x1 S1 hp1 => ?_
  cases c with
  | false => exact hb ρ1 μ1 δ σ H1 S1 (e.ext x1) Q hp1
  | true => exact hp1 true ρ1 H1 Ext.refl S1 rfl
theorem sim_tNot {t : TT} {A : BG} (ha : SimT K Γ E t A) : SimT K Γ E (tNot t) (notB A) := fun ρ μ δ σ H S e Q hp =>
  ha.go S e hp fun c ρ1 μ1 H1 x1 S1 hp1 => hp1 (!c) ρ1 H1 Ext.refl S1 rfl
def yesB : BG := fun _ => ret true
theorem sim_tYes : SimT K Γ E tYes yesB := fun ρ μ δ σ H S e Q hp => hp true ρ H Ext.refl S rfl
def andG (a b : EG) : EG := fun δ => bnd (a δ) fun d => blG d fun c => if c = true then b δ else ret (.bl false)
def orG (a b : EG) : EG := fun δ => bnd (a δ) fun d => blG d fun c => if c = true then ret (.bl true) else b δ
def notG (a : EG) : EG := fun δ => bnd (a δ) fun d => blG d fun c => ret (.bl (!c))
theorem sim_andV (ha : SimE K Γ E ta Fa) (hb : SimE K Γ E tb Fb) : SimE K Γ E (tAndV ta tb) (andG Fa Fb) := fun ρ μ δ σ H S e Q hp => by
  refine ha.go S e hp fun v d ρ1 μ1 H1 x1 S1 r1 hp1 => ?_
  cases r1 with
  | bl b =>
    refine ⟨b, rfl, ?_⟩
    cases b with
    | true => exact hb ρ1 μ1 δ σ H1 S1 (e.ext x1) Q hp1
    | false => exact hp1 (.bl false) ρ1 H1 Ext.refl S1 (.bl false)
  | _ => exact hp1.elim
theorem sim_orV (ha : SimE K Γ E ta Fa) (hb : SimE K Γ E tb Fb) : SimE K Γ E (tOrV ta tb) (orG Fa Fb) := fun ρ μ δ σ H S e Q hp => by
  refine ha.go S e hp fun v d ρ1 μ1 H1 x1 S1 r1 hp1 => ?_
  cases r1 with
  | bl b =>
    refine ⟨b, rfl, ?_⟩
    cases b with
    | false => exact hb ρ1 μ1 δ σ H1 S1 (e.ext x1) Q hp1
    | true => exact hp1 (.bl true) ρ1 H1 Ext.refl S1 (.bl true)
  | _ => exact hp1.elim
theorem sim_notV (ha : SimE K Γ E ta Fa) : SimE K Γ E (tNotV ta) (notG Fa) := fun ρ μ δ σ H S e Q hp => by
  refine ha.go S e hp fun v d ρ1 μ1 H1 x1 S1 r1 hp1 => ?_
  cases r1 with
  | bl b => exact ⟨b, rfl, hp1 (.bl (!b)) ρ1 H1 Ext.refl S1 (.bl _)⟩
  | _ => exact hp1.elim
def ifG {α : Type} (t : BG) (a b : Dn → Mn α) : Dn → Mn α := fun δ => bnd (t δ) fun c => if c = true then a δ else b δ
theorem sim_if {t : TT} {B : BG} (ht : SimT K Γ E t B) (ha : SimE K Γ E ta Fa) (hb : SimE K Γ E tb Fb) : SimE K Γ E (tIf t ta tb) (ifG B Fa Fb) := fun ρ μ δ σ H S e Q hp => by
  refine ht.go S e hp fun c ρ1 μ1 H1 x1 S1 hp1 => ?_
  cases c with
  | true => exact ha ρ1 μ1 δ σ H1 S1 (e.ext x1) Q hp1
  | false => exact hb ρ1 μ1 δ σ H1 S1 (e.ext x1) Q hp1
theorem RelL.ext0 {ds : List D} {v : V} (x : Ext ρ H ρ1 H1) (h : RelL K H1 ρ' H' v ds) : RelL K H ρ' H' v ds := by
  obtain ⟨p, xs, h1, h2, h3⟩ := h
  exact ⟨p, xs, h1, x.there p h2, h3⟩
theorem Post.relL {r : Rs (List D)} {Q : VK} (x : Ext ρ H ρ1 H1) (h : Post K Γ E (RelL K H) ρ1 H1 r Q) : Post K Γ E (RelL K H1) ρ1 H1 r Q := by
  cases r with
  | ok a μ' => exact fun b ρ' H' e s r => h b ρ' H' e s (r.ext0 x)
  | ex y μ' => exact h
  | stuck => exact h
theorem sim_ifL {t : TT} {B : BG} (ht : SimT K Γ E t B) (ha : SimL K Γ E ta La) (hb : SimL K Γ E tb Lb) : SimL K Γ E (tIf t ta tb) (ifG B La Lb) := fun ρ μ δ σ H S e Q hp => by
  refine ht.go S e hp fun c ρ1 μ1 H1 x1 S1 hp1 => ?_
  cases c with
  | true => exact ha ρ1 μ1 δ σ H1 S1 (e.ext x1) Q (hp1.relL x1)
  | false => exact hb ρ1 μ1 δ σ H1 S1 (e.ext x1) Q (hp1.relL x1)
def chainG (g g' : D → D → Mn D) (a b c : EG) : EG := fun δ => bnd (a δ) fun x => bnd (b δ) fun y => bnd (g x y) fun z => blG z fun k => if k = true then bnd (c δ) fun w => g' y w else ret (.bl false)
theorem sim_chain {r r' : R2} {g g' : D → D → Mn D} (hr : OpS K Γ E r g) (hr' : OpS K Γ E r' g') (ha : SimE K Γ E ta Fa) (hb : SimE K Γ E tb Fb) (hc : SimE K Γ E tc Fc) : SimE K Γ E (tChain r r' ta tb tc) (chainG g g' Fa Fb Fc) := fun ρ μ δ σ H S e Q hp => by
  refine ha.go S e hp fun v d ρ1 μ1 H1 x1 S1 r1 hp1 => ?_
  refine hb.go S1 (e.ext x1) hp1 fun w c ρ2 μ2 H2 x2 S2 r2 hp2 => ?_
  refine Sim.go (T := fun P => r v w H2 P) (fun P hP => hr ρ2 μ2 H2 v w d c P S2 (r1.ext x2) r2 hP) hp2 fun z k ρ3 μ3 H3 x3 S3 r3 hp3 => ?_
  cases r3 with
  | bl b =>
    refine ⟨b, rfl, ?_⟩
    cases b with
    | false => exact hp3 (.bl false) ρ3 H3 Ext.refl S3 (.bl false)
    | true => exact hc.go S3 (((e.ext x1).ext x2).ext x3) hp3 fun w' c' ρ4 μ4 H4 x4 S4 r4 hp4 => hr' ρ4 μ4 H4 w w' c c' Q S4 ((r2.ext x3).ext x4) r4 hp4
  | _ => exact hp3.elim
end
end Sim

set_option autoImplicit false
/-! Sim, part 3: operators and calls of built-ins, by values. -/
namespace Sim
open PySem L2

/-! ### what is plain data -/
mutual
def D.py : D → Option PyData
  | .non => some .none
  | .bl b => some (.bool b)
  | .int i => some (.int i)
  | .str x => some (.str x)
  | .tup ds => match pyAll ds with
    | some ps => some (.tuple ps)
    | none => none
  | .fz ds => match pyAll ds with
    | some ps => some (.list ps)
    | none => none
  | .loc _ => none
  | .ty _ => none
  | .adr _ => none
def pyAll : List D → Option (List PyData)
  | [] => some []
  | d :: ds => match D.py d, pyAll ds with
    | some p, some ps => some (p :: ps)
    | _, _ => none
end
section
variable {K : PySem.W.Frag} {Γ : Clss} {E : XK} {ρ : List Addr} {H : Hp} {μ : Store}
mutual
theorem RV.dp : ∀ {v : V} {d : D} {p : PyData}, RV K ρ H v d → d.py = some p → Dp K H v p
  | _, _, _, .non, e => by rw [D.py] at e; cases e; exact .non
  | _, _, _, .bl b, e => by rw [D.py] at e; cases e; exact .bl b
  | _, _, _, .int b, e => by rw [D.py] at e; cases e; exact .int b
  | _, _, _, .str b, e => by rw [D.py] at e; cases e; exact .str b
  | _, _, _, .tup h _ r, e => by
    rw [D.py] at e
    split at e
    · rename_i ps q
      cases e
      exact .tup h (RVs.dp r q)
    · cases e
  | _, _, _, .fz h _ r, e => by
    rw [D.py] at e
    split at e
    · rename_i ps q
      cases e
      exact .lst h.sq (RVs.dp r q)
    · cases e
  | _, _, _, .loc _, e => by rw [D.py] at e; cases e
  | _, _, _, .ty _, e => by rw [D.py] at e; cases e
  | _, _, _, .adr _, e => by rw [D.py] at e; cases e
theorem RVs.dp : ∀ {vs : List V} {ds : List D} {ps : List PyData}, RVs K ρ H vs ds → pyAll ds = some ps → DpAll K H vs ps
  | _, _, _, .nil, e => by rw [pyAll] at e; cases e; exact .nil
  | _, _, _, .cons h t, e => by
    rw [pyAll] at e
    split at e
    · rename_i p ps q1 q2
      cases e
      exact .cons (RV.dp h q1) (RVs.dp t q2)
    · cases e
end
end

/-! ### operators -/
section
variable {K : PySem.W.Frag} {Γ : Clss} {E : XK} {ρ : List Addr} {H : Hp} {μ : Store} {X : Cx}
def fit (n : Nat) {α : Type} (m : Mn α) : Mn α := if n ≤ sizeLine then m else stk
theorem fit_ok {n : Nat} {α : Type} {m : Mn α} (h : n ≤ sizeLine) : fit n m = m := if_pos h
/-- a + b: ints, tuples, texts -/
def addD : D → D → Mn D
  | .int i, .int j => ret (.int (i + j))
  | .tup xs, .tup ys => fit (xs.length + ys.length) (ret (.tup (xs ++ ys)))
  | .str x, .str y => fit (x.length + y.length) (ret (.str (x ++ y)))
  | _, _ => stk
def rAddA (K : PySem.W.Frag) : R2 := fun x y H Q => rI0 (fun i j => .int (i + j)) x y H Q ∨ (rCatA K x y H Q ∨ ∃ i j, x = .str i ∧ y = .str j ∧ i.length + j.length ≤ sizeLine ∧ Q (.str (i ++ j)) H)
theorem op_addA : OpR X (binaryOp .Add) (rAddA X.K) := op_add.or (op_catA.or op_add_str)
theorem fitP {n : Nat} {α β : Type} {m : Mn α} {Rl : List Addr → Hp → β → α → Prop} {Q : β → Hp → Prop} (h : Post K Γ E Rl ρ H (fit n m μ) Q) : n ≤ sizeLine ∧ Post K Γ E Rl ρ H (m μ) Q := by
  unfold fit at h
  by_cases hn : n ≤ sizeLine
  · rw [if_pos hn] at h; exact ⟨hn, h⟩
  · rw [if_neg hn] at h; exact h.elim
theorem s_add : OpS K Γ E (rAddA K) addD := by
  intro ρ μ H v w d e Q S r1 r2 hp
  cases r1 with
  | int i => cases r2 with
    | int j => exact .inl ⟨i, j, rfl, rfl, hp _ ρ H Ext.refl S (.int _)⟩
    | _ => exact hp.elim
  | str i => cases r2 with
    | str j =>
      obtain ⟨hl, hp⟩ := fitP hp
      exact .inr (.inr ⟨i, j, rfl, rfl, hl, hp _ ρ H Ext.refl S (.str _)⟩)
    | _ => exact hp.elim
  | @tup a xs ds h1 l1 t1 => cases r2 with
    | @tup b ys es h2 l2 t2 =>
      obtain ⟨hl, hp⟩ := fitP hp
      have hl' : xs.length + ys.length ≤ sizeLine := by rw [t1.length, t2.length]; exact hl
      refine .inr (.inl ⟨a, b, xs, ys, rfl, rfl, h1, h2, hl', fun e => ?_, fun _ e => ?_, fun _ _ p hn => ?_⟩)
      · subst e; cases t1
        exact hp _ ρ H Ext.refl S (.tup h2 l2 t2)
      · subst e; cases t2
        refine hp _ ρ H Ext.refl S (.tup h1 l1 ?_)
        rw [List.append_nil]; exact t1
      · have x : Ext ρ H ρ (upd H p (.tup (xs ++ ys))) := Ext.new hn
        exact hp _ ρ _ x (S.new hn) (.tup (.inl (.inl upd_same)) (by rw [List.length_append]; exact hl') ((t1.append t2).ext x))
    | _ => exact hp.elim
  | _ => exact hp.elim
/-- operators on two ints -/
def intD (C : Int → Int → Bool) (g : Int → Int → D) : D → D → Mn D
  | .int i, .int j => if C i j = true then ret (g i j) else stk
  | _, _ => stk
theorem s_rI {C : Int → Int → Prop} {Cb : Int → Int → Bool} {g : Int → Int → V} {f : Int → Int → D} (hC : ∀ i j, Cb i j = true → C i j) (hg : ∀ ρ H i j, RV K ρ H (g i j) (f i j)) : OpS K Γ E (rI C g) (intD Cb f) := by
  intro ρ μ H v w d e Q S r1 r2 hp
  cases r1 with
  | int i => cases r2 with
    | int j =>
      unfold intD at hp
      by_cases h : Cb i j = true
      · simp only [if_pos h] at hp
        exact ⟨i, j, rfl, rfl, hC i j h, hp _ ρ H Ext.refl S (hg ρ H i j)⟩
      · simp only [if_neg h] at hp; exact hp.elim
    | _ => exact hp.elim
  | _ => exact hp.elim
theorem s_rI0 {g : Int → Int → V} {f : Int → Int → D} (hg : ∀ ρ H i j, RV K ρ H (g i j) (f i j)) : OpS K Γ E (rI0 g) (intD (fun _ _ => true) f) := by
  intro ρ μ H v w d e Q S r1 r2 hp
  cases r1 with
  | int i => cases r2 with
    | int j => exact ⟨i, j, rfl, rfl, hp _ ρ H Ext.refl S (hg ρ H i j)⟩
    | _ => exact hp.elim
  | _ => exact hp.elim
def subD : D → D → Mn D := intD (fun _ _ => true) fun i j => .int (i - j)
theorem s_sub : OpS K Γ E (rI0 fun i j => .int (i - j)) subD := s_rI0 fun _ _ _ _ => .int _
def mulD : D → D → Mn D := intD (fun i j => decide ((-(2 ^ 64) < i ∧ i < 2 ^ 64) ∨ (-(2 ^ 64) < j ∧ j < 2 ^ 64))) fun i j => .int (i * j)
theorem s_mul : OpS K Γ E (rI CMul fun i j => .int (i * j)) mulD := s_rI (fun i j h => by simpa [CMul] using h) fun _ _ _ _ => .int _
def fdivD : D → D → Mn D := intD (fun i j => decide (0 < j ∧ j < 1073741824)) fun i j => .int (i / j)
theorem s_fdiv : OpS K Γ E (rI CDiv fun i j => .int (i / j)) fdivD := s_rI (fun i j h => by simpa [CDiv] using h) fun _ _ _ _ => .int _
def modD : D → D → Mn D := intD (fun _ j => decide (0 < j)) fun i j => .int (i % j)
theorem s_mod : OpS K Γ E (rI (fun _ j => 0 < j) fun i j => .int (i % j)) modD := s_rI (fun i j h => of_decide_eq_true h) fun _ _ _ _ => .int _
def powD : D → D → Mn D := intD (fun i j => decide (0 ≤ j ∧ j ≤ 1000000 ∧ i.natAbs < 2 ^ 64)) fun i j => .int (i ^ j.toNat)
theorem s_pow : OpS K Γ E (rI CPow fun i j => .int (i ^ j.toNat)) powD := s_rI (fun i j h => by simpa [CPow] using h) fun _ _ _ _ => .int _
def leD : D → D → Mn D := intD (fun _ _ => true) fun i j => .bl (decide (i ≤ j))
theorem s_le : OpS K Γ E (rI0 fun i j => .bl (decide (i ≤ j))) leD := s_rI0 fun _ _ _ _ => .bl _
def gtD : D → D → Mn D := intD (fun _ _ => true) fun i j => .bl (decide (j < i))
theorem s_gt : OpS K Γ E (rI0 fun i j => .bl (decide (j < i))) gtD := s_rI0 fun _ _ _ _ => .bl _
def geD : D → D → Mn D := intD (fun _ _ => true) fun i j => .bl (decide (j ≤ i))
theorem s_ge : OpS K Γ E (rI0 fun i j => .bl (decide (j ≤ i))) geD := s_rI0 fun _ _ _ _ => .bl _
/-- ints of a list of data -/
def unInts : List D → Option (List Int)
  | [] => some []
  | .int i :: ds => (unInts ds).map (i :: ·)
  | _ :: _ => none
theorem unInts_some : ∀ {ds : List D} {is : List Int}, unInts ds = some is → ds = is.map D.int
  | [], is, h => by cases h; rfl
  | .int i :: ds, is, h => by
    simp only [unInts, Option.map_eq_some_iff] at h
    obtain ⟨js, h1, h2⟩ := h
    subst h2
    rw [unInts_some h1]; rfl
  | .non :: _, _, h => nomatch h
  | .bl _ :: _, _, h => nomatch h
  | .str _ :: _, _, h => nomatch h
  | .tup _ :: _, _, h => nomatch h
  | .loc _ :: _, _, h => nomatch h
  | .fz _ :: _, _, h => nomatch h
  | .ty _ :: _, _, h => nomatch h
  | .adr _ :: _, _, h => nomatch h
@[simp] theorem unInts_map : ∀ is : List Int, unInts (is.map D.int) = some is
  | [] => rfl
  | i :: is => by simp [unInts, unInts_map is]
/-- a < b: ints, tuples of ints -/
def ltD : D → D → Mn D
  | .int i, .int j => ret (.bl (decide (i < j)))
  | .tup xs, .tup ys => match unInts xs, unInts ys with
    | some ns, some ms => ret (.bl (HT.lexLt ns ms))
    | _, _ => stk
  | _, _ => stk
def rLtA (K : PySem.W.Frag) : R2 := fun x y H Q => rI0 (fun i j => .bl (decide (i < j))) x y H Q ∨ rLtT K x y H Q
theorem op_ltA (hu : X.A.units < cLine) : OpR X (compareOp .Lt) (rLtA X.K) := op_lt.or (op_ltT hu)
theorem s_lt : OpS K Γ E (rLtA K) ltD := by
  intro ρ μ H v w d e Q S r1 r2 hp
  cases r1 with
  | int i => cases r2 with
    | int j => exact .inl ⟨i, j, rfl, rfl, hp _ ρ H Ext.refl S (.bl _)⟩
    | _ => exact hp.elim
  | @tup a xs ds h1 l1 t1 => cases r2 with
    | @tup b ys es h2 l2 t2 =>
      unfold ltD at hp
      cases q1 : unInts ds with
      | none => simp only [q1] at hp; exact hp.elim
      | some ns => cases q2 : unInts es with
        | none => simp only [q1, q2] at hp; exact hp.elim
        | some ms =>
          simp only [q1, q2] at hp
          have e1 := unInts_some q1
          have e2 := unInts_some q2
          subst e1; subst e2
          refine .inr ⟨a, b, ns, ms, rfl, rfl, ?_, ?_, hp _ ρ H Ext.refl S (.bl _)⟩
          · rw [← t1.ints]; exact h1
          · rw [← t2.ints]; exact h2
    | _ => exact hp.elim
  | _ => exact hp.elim
/-- is None, is not None; is of two truth values -/
def isNonB : D → Bool
  | .non => true
  | _ => false
theorem RV.nonB {v : V} {d : D} (r : RV K ρ H v d) : decide (v = .non) = isNonB d := by
  cases r <;> first | rfl | simp [isNonB]
def isNG (d _e : D) : Mn D := ret (.bl (isNonB d))
def notNG (d _e : D) : Mn D := ret (.bl (!isNonB d))
theorem s_isN : OpS K Γ E (fun x y H Q => y = .non ∧ Q (.bl (decide (x = .non))) H) (fun d e => if isNonB e = true then isNG d e else stk) := by
  intro ρ μ H v w d e Q S r1 r2 hp
  cases r2 with
  | non => exact ⟨rfl, hp _ ρ H Ext.refl S (by rw [r1.nonB]; exact .bl _)⟩
  | _ => exact hp.elim
theorem s_notN : OpS K Γ E (fun x y H Q => y = .non ∧ Q (.bl (!decide (x = .non))) H) (fun d e => if isNonB e = true then notNG d e else stk) := by
  intro ρ μ H v w d e Q S r1 r2 hp
  cases r2 with
  | non => exact ⟨rfl, hp _ ρ H Ext.refl S (by rw [r1.nonB]; exact .bl _)⟩
  | _ => exact hp.elim
def isND : D → D → Mn D := fun d e => if isNonB e = true then isNG d e else stk
def notND : D → D → Mn D := fun d e => if isNonB e = true then notNG d e else stk
def blD (f : Bool → Bool → Bool) : D → D → Mn D
  | .bl i, .bl j => ret (.bl (f i j))
  | _, _ => stk
theorem s_isbl : OpS K Γ E (fun x y H Q => ∃ a b, x = .bl a ∧ y = .bl b ∧ Q (.bl (decide (a = b))) H) (blD fun i j => decide (i = j)) := by
  intro ρ μ H v w d e Q S r1 r2 hp
  cases r1 with
  | bl i => cases r2 with
    | bl j => exact ⟨i, j, rfl, rfl, hp _ ρ H Ext.refl S (.bl _)⟩
    | _ => exact hp.elim
  | _ => exact hp.elim
theorem s_isnotbl : OpS K Γ E (fun x y H Q => ∃ a b, x = .bl a ∧ y = .bl b ∧ Q (.bl (!decide (a = b))) H) (blD fun i j => !decide (i = j)) := by
  intro ρ μ H v w d e Q S r1 r2 hp
  cases r1 with
  | bl i => cases r2 with
    | bl j => exact ⟨i, j, rfl, rfl, hp _ ρ H Ext.refl S (.bl _)⟩
    | _ => exact hp.elim
  | _ => exact hp.elim
/-- == and != of plain data; in and not in -/
def shp (p : PyData) : Bool := SeqAt.shaped p
def eqD (neg : Bool) (d e : D) : Mn D := match d.py, e.py with
  | some p, some q => if (shp p && shp q) = true then ret (.bl (if neg then !PyData.eqv p q else PyData.eqv p q)) else stk
  | _, _ => stk
theorem s_eqD : OpS K Γ E (rEqD K) (eqD false) := by
  intro ρ μ H v w d e Q S r1 r2 hp
  unfold eqD at hp
  cases h1 : d.py with
  | none => simp only [h1] at hp; exact hp.elim
  | some p => cases h2 : e.py with
    | none => simp only [h1, h2] at hp; exact hp.elim
    | some q =>
      simp only [h1, h2] at hp
      by_cases hs : (shp p && shp q) = true
      · rw [if_pos hs] at hp
        rw [Bool.and_eq_true] at hs
        exact ⟨p, q, r1.dp h1, r2.dp h2, hs.1, hs.2, hp _ ρ H Ext.refl S (.bl _)⟩
      · rw [if_neg hs] at hp; exact hp.elim
theorem s_neD : OpS K Γ E (rNeD K) (eqD true) := by
  intro ρ μ H v w d e Q S r1 r2 hp
  unfold eqD at hp
  cases h1 : d.py with
  | none => simp only [h1] at hp; exact hp.elim
  | some p => cases h2 : e.py with
    | none => simp only [h1, h2] at hp; exact hp.elim
    | some q =>
      simp only [h1, h2] at hp
      by_cases hs : (shp p && shp q) = true
      · rw [if_pos hs] at hp
        rw [Bool.and_eq_true] at hs
        exact ⟨p, q, r1.dp h1, r2.dp h2, hs.1, hs.2, hp _ ρ H Ext.refl S (.bl _)⟩
      · rw [if_neg hs] at hp; exact hp.elim
/-- in a tuple of plain data -/
def rInT (K : PySem.W.Frag) (neg : Bool) : R2 := fun x y H Q => ∃ d ds, Dp K H x d ∧ Dp K H y (.tuple ds) ∧ SeqAt.shaped d = true ∧ SeqAt.shaped (.tuple ds) = true ∧ Q (.bl (if neg then !ds.any fun z => PyData.eqv z d else ds.any fun z => PyData.eqv z d)) H
theorem op_inT (hu : X.A.units + 65 < cLine) : OpR X (compareOp .In) (rInT X.K false) := by
  intro pins s σ H x y v u Q I rx ry h
  obtain ⟨d, ds, hd, he, sd, se, q⟩ := h
  obtain ⟨as, r1⟩ := Dp.reads I d x v hd rx
  obtain ⟨bs, r2⟩ := Dp.reads I (.tuple ds) y u he ry
  exact SeqAt.in_tuple_reads r2 r1 (SeqAt.canLay_of_shaped se) (SeqAt.canLay_of_shaped sd) (PyProof.Rows.room_in_shaped sd hu) ⟨.bl _, H, I, rfl, q⟩
theorem op_notInT (hu : X.A.units + 65 < cLine) : OpR X (compareOp .NotIn) (rInT X.K true) := by
  intro pins s σ H x y v u Q I rx ry h
  obtain ⟨d, ds, hd, he, sd, se, q⟩ := h
  obtain ⟨as, r1⟩ := Dp.reads I d x v hd rx
  obtain ⟨bs, r2⟩ := Dp.reads I (.tuple ds) y u he ry
  exact SeqAt.notIn_tuple_reads r2 r1 (SeqAt.canLay_of_shaped se) (SeqAt.canLay_of_shaped sd) (PyProof.Rows.room_in_shaped sd hu) ⟨.bl _, H, I, rfl, q⟩
def rInA (K : PySem.W.Frag) : R2 := fun x y H Q => rInT K false x y H Q ∨ rInD K x y H Q
def rNotInA (K : PySem.W.Frag) : R2 := fun x y H Q => rInT K true x y H Q ∨ rNotInD K x y H Q
theorem op_inA (hu : X.A.units + 65 < cLine) : OpR X (compareOp .In) (rInA X.K) := (op_inT hu).or (op_inD hu)
theorem op_notInA (hu : X.A.units + 65 < cLine) : OpR X (compareOp .NotIn) (rNotInA X.K) := (op_notInT hu).or (op_notInD hu)
/-- the items of a tuple, of a list, at the store as it is -/
def seqOf (e : D) (μ : Store) : Option (Bool × List D) := match e with
  | .tup es => some (true, es)
  | .fz es => some (false, es)
  | .loc n => match μ[n]? with
    | some (.lst es) => some (false, es)
    | _ => none
  | _ => none
def inD (neg : Bool) (d e : D) : Mn D := fun μ => match seqOf e μ with
  | some (_, es) => match d.py, pyAll es with
    | some p, some ps => if (shp p && shp (.tuple ps) && shp (.list ps)) = true then .ok (.bl (if neg then !ps.any (fun z => PyData.eqv z p) else ps.any fun z => PyData.eqv z p)) μ else .stuck
    | _, _ => .stuck
  | none => .stuck
theorem RV.seq {v : V} {e : D} {t : Bool} {es : List D} (S : SR K Γ ρ μ H) (r : RV K ρ H v e) (h : seqOf e μ = some (t, es)) :
    ∃ a xs, v = .ref a ∧ xs.length ≤ sizeLine ∧ RVs K ρ H xs es ∧ ((t = true ∧ SqT K H a xs) ∨ (t = false ∧ SqL K H a xs)) := by
  cases r with
  | @tup a xs ds h1 l1 t1 => cases h; exact ⟨a, xs, rfl, l1, t1, .inl ⟨rfl, h1⟩⟩
  | @fz a xs ds h1 l1 t1 => cases h; exact ⟨a, xs, rfl, l1, t1, .inr ⟨rfl, h1.sq⟩⟩
  | @loc a n hn =>
    unfold seqOf at h
    obtain ⟨o, ho, x⟩ := S.ob hn
    simp only [ho] at h
    cases x with
    | @lst xs ds e1 l1 r1 => cases h; exact ⟨a, xs, rfl, l1, r1, .inr ⟨rfl, SqL.of e1⟩⟩
    | _ => cases h
  | _ => cases h
theorem s_in : OpS K Γ E (rInA K) (inD false) := by
  intro ρ μ H v w d e Q S r1 r2 hp
  unfold inD at hp
  split at hp
  · rename_i t es hs
    obtain ⟨a, xs, rfl, hl, rr, hk⟩ := r2.seq S hs
    split at hp
    · rename_i p ps h1 h2
      split at hp
      · rename_i hsh
        simp only [Bool.and_eq_true] at hsh
        have hq := hp _ ρ H Ext.refl S (.bl _)
        rcases hk with ⟨_, hk⟩ | ⟨_, hk⟩
        · exact .inl ⟨p, ps, r1.dp h1, .tup hk (rr.dp h2), hsh.1.1, hsh.1.2, hq⟩
        · exact .inr ⟨p, ps, r1.dp h1, .lst hk (rr.dp h2), hsh.1.1, hsh.2, hq⟩
      · exact hp.elim
    · exact hp.elim
  · exact hp.elim
theorem s_notIn : OpS K Γ E (rNotInA K) (inD true) := by
  intro ρ μ H v w d e Q S r1 r2 hp
  unfold inD at hp
  split at hp
  · rename_i t es hs
    obtain ⟨a, xs, rfl, hl, rr, hk⟩ := r2.seq S hs
    split at hp
    · rename_i p ps h1 h2
      split at hp
      · rename_i hsh
        simp only [Bool.and_eq_true] at hsh
        have hq := hp _ ρ H Ext.refl S (.bl _)
        rcases hk with ⟨_, hk⟩ | ⟨_, hk⟩
        · exact .inl ⟨p, ps, r1.dp h1, .tup hk (rr.dp h2), hsh.1.1, hsh.1.2, hq⟩
        · exact .inr ⟨p, ps, r1.dp h1, .lst hk (rr.dp h2), hsh.1.1, hsh.2, hq⟩
      · exact hp.elim
    · exact hp.elim
  · exact hp.elim
end

/-! ### a list or a tuple held against the empty one -/
section
variable {K : PySem.W.Frag} {Γ : Clss} {E : XK} {ρ : List Addr} {H : Hp} {μ : Store} {X : Cx}
def rNil (K : PySem.W.Frag) (neg : Bool) : R2 := fun x y H Q => ∃ a b xs, x = .ref a ∧ y = .ref b ∧ ((SqL K H a xs ∧ SqL K H b []) ∨ (SqT K H a xs ∧ SqT K H b [])) ∧ Q (.bl (if neg then !xs.isEmpty else xs.isEmpty)) H
theorem nil_size {xs : List V} {its : List Value} (r : Vals xs its) : (its.toArray.size != (#[] : Array Value).size) = !xs.isEmpty := by
  cases r <;> simp
theorem op_eqNil (hu : X.A.units < cLine) : OpR X (compareOp .Eq) (rNil X.K false) := by
  intro pins s σ H x y v u Q I rx ry h
  obtain ⟨a, b, xs, rfl, rfl, h, q⟩ := h
  cases rx; cases ry
  rcases h with ⟨h1, h2⟩ | ⟨h1, h2⟩
  · obtain ⟨its, r1, p1, _⟩ := I.list h1
    obtain ⟨jts, r2, p2, _⟩ := I.list h2
    cases r2
    have hz := nil_size r1
    cases hx : xs.isEmpty with
    | true =>
      rw [hx] at hz q
      have e : its.toArray.size = 0 := by simpa using hz
      refine SeqAt.eq_listAt (e := fun _ => true) p1.isList p2.isList (by simpa using e) hu (fun j h1 h2 => absurd h2 (by simp)) ?_
      rw [e]
      exact ⟨.bl true, H, I, rfl, q⟩
    | false =>
      rw [hx] at hz q
      exact SeqAt.eq_list_lengthsAt p1.isList p2.isList hz hu ⟨.bl false, H, I, rfl, q⟩
  · obtain ⟨its, r1, p1, _⟩ := I.tuple h1
    obtain ⟨jts, r2, p2, _⟩ := I.tuple h2
    cases r2
    have hz := nil_size r1
    refine SeqAt.eq_tupleAt (e := fun _ => true) (items := its.toArray) (items2 := #[]) p1 p2 hu (fun j h1 h2 => absurd h2 (by simp)) ?_
    have e : ((List.range (min its.toArray.size (#[] : Array Value).size)).all (fun _ => true) && its.toArray.size == (#[] : Array Value).size) = xs.isEmpty := by
      have z : (its.toArray.size == (#[] : Array Value).size) = xs.isEmpty := by
        have : (its.toArray.size == (#[] : Array Value).size) = !(its.toArray.size != (#[] : Array Value).size) := by rw [bne, Bool.not_not]
        rw [this, hz, Bool.not_not]
      rw [z]; simp
    rw [e]
    exact ⟨.bl _, H, I, rfl, q⟩
theorem op_neNil (hu : X.A.units < cLine) : OpR X (compareOp .NotEq) (rNil X.K true) := by
  intro pins s σ H x y v u Q I rx ry h
  obtain ⟨a, b, xs, rfl, rfl, h, q⟩ := h
  cases rx; cases ry
  rcases h with ⟨h1, h2⟩ | ⟨h1, h2⟩
  · obtain ⟨its, r1, p1, _⟩ := I.list h1
    obtain ⟨jts, r2, p2, _⟩ := I.list h2
    cases r2
    have hz := nil_size r1
    cases hx : xs.isEmpty with
    | true =>
      rw [hx] at hz q
      have e : its.toArray.size = 0 := by simpa using hz
      refine SeqAt.RcNeAt.lists (e := fun _ => true) p1.isList p2.isList (by simpa using e) hu (fun j h1 h2 => absurd h2 (by simp)) X.prog X.w X.xe _ ?_
      rw [e]
      exact ⟨.bl false, H, I, rfl, q⟩
    | false =>
      rw [hx] at hz q
      exact SeqAt.RcNeAt.lists_lengths p1.isList p2.isList hz hu X.prog X.w X.xe _ ⟨.bl true, H, I, rfl, q⟩
  · obtain ⟨its, r1, p1, _⟩ := I.tuple h1
    obtain ⟨jts, r2, p2, _⟩ := I.tuple h2
    cases r2
    have hz := nil_size r1
    refine SeqAt.RcNeAt.tuples (e := fun _ => true) (items := its.toArray) (items2 := #[]) p1 p2 hu (fun j h1 h2 => absurd h2 (by simp)) X.prog X.w X.xe _ ?_
    have e : (!((List.range (min its.toArray.size (#[] : Array Value).size)).all (fun _ => true) && its.toArray.size == (#[] : Array Value).size)) = !xs.isEmpty := by
      rw [← hz, bne]; simp
    rw [e]
    exact ⟨.bl _, H, I, rfl, q⟩
end
end Sim

set_option autoImplicit false
/-! Sim, part 4: targets, what is walked, comprehensions. -/
namespace Sim
open PySem L2

section
variable {K : PySem.W.Frag} {Γ : Clss} {E : XK} {ρ ρ1 ρ2 ρ' : List Addr} {H H1 H2 H' : Hp} {μ μ1 : Store} {σ : L2.St} {δ : Dn}
theorem ER.up (x : Up K ρ H ρ1 H1) (e : ER K ρ H σ δ) : ER K ρ1 H1 σ δ := ⟨e.len, fun i d h => let ⟨v, h1, h2⟩ := e.get i d h; ⟨v, h1, h2.up x⟩⟩
theorem Up.trans (x : Up K ρ H ρ1 H1) (y : Up K ρ1 H1 ρ2 H2) : Up K ρ H ρ2 H2 := ⟨fun n a h => y.sub n a (x.sub n a h), fun a xs h => y.sqT a xs (x.sqT a xs h), fun a xs h => y.fzL a xs (x.fzL a xs h)⟩
theorem Up.refl : Up K ρ H ρ H := ⟨fun _ _ h => h, fun _ _ h => h, fun _ _ h => h⟩
/-- an object that is neither a tuple nor locked is changed -/
theorem Up.poke {p : Addr} {u o : HO} (h : H p = some u) (hm : IsMut u) : Up K ρ H ρ (upd H p o) := by
  have ne : ∀ b w, H b = some w → ¬ IsMut w → b ≠ p := fun b w e n z => by
    rw [z, h] at e; cases e; exact n hm
  refine ⟨fun _ _ h => h, fun a xs q => ?_, fun a xs q => ?_⟩
  · rcases q with (q | ⟨w, q⟩) | q
    · exact .inl (.inl (by rw [upd_ne (ne a _ q fun z => z)]; exact q))
    · exact .inl (.inr ⟨w, by rw [upd_ne (ne a _ q fun z => z)]; exact q⟩)
    · exact .inr q
  · rcases q with ⟨w, q⟩ | q
    · exact .inl ⟨w, by rw [upd_ne (ne a _ q fun z => z)]; exact q⟩
    · exact .inr q
theorem SR.poke {p : Addr} {u o : HO} (S : SR K Γ ρ μ H) (hp : p ∉ ρ) (h : H p = some u) (hm : IsMut u) : SR K Γ ρ μ (upd H p o) :=
  ⟨S.len, S.nd, fun n a w hn hw => (S.obs n a w hn hw).up (Up.poke h hm) (upd_ne fun z => hp (by rw [← z]; exact List.mem_of_getElem? hn)), S.kn.upd fun w q => by rw [h] at q; cases q; exact mut_plain hm⟩
theorem Ext.poke {p : Addr} {o : HO} (x : Ext ρ H ρ1 H1) (h : H p = none) (h1 : ∃ u, H1 p = some u) : Ext ρ H ρ1 (upd H1 p o) :=
  ⟨x.pre, fun b u e hb nt => by rw [upd_ne (ne_of_none e h)]; exact x.keep b u e hb nt, fun b e => by
    by_cases hb : b = p
    · rw [hb]; exact h
    · rw [upd_ne hb] at e; exact x.there b e,
    fun b xs e => by rw [upd_ne (ne_of_none e h)]; exact x.tups b xs e, fun b u xs e => by rw [upd_ne (ne_of_none e h)]; exact x.frzs b u xs e, fun b u xs e => by rw [upd_ne (ne_of_none e h)]; exact x.frzt b u xs e⟩
theorem Ext.notIn {b : Addr} {o : HO} (x : Ext ρ H ρ1 H1) (h : H b = some o) (hn : b ∉ ρ) : b ∉ ρ1 := fun z => by
  obtain ⟨m, e, hm⟩ := x.pre
  rw [e] at z
  rcases List.mem_append.mp z with z | z
  · exact hn z
  · rw [hm b z] at h; cases h
end

/-! ### slots forgotten -/
theorem wipe_get (σ : L2.St) (j : Nat) : ∀ vs : List Nat, (L2.wipe σ vs)[j]? = if j ∈ vs ∧ j < σ.length then some none else σ[j]?
  | [] => by simp [L2.wipe]
  | v :: vs => by
    unfold L2.wipe
    by_cases hv : v = j
    · subst hv
      by_cases hj : v < σ.length
      · rw [List.getElem?_set_self (by rw [wipe_length]; exact hj), if_pos ⟨List.mem_cons_self, hj⟩]
      · rw [List.getElem?_eq_none (by simp [wipe_length]; omega), if_neg (fun z => hj z.2), List.getElem?_eq_none (by omega)]
    · rw [List.getElem?_set_ne hv, wipe_get σ j vs]
      by_cases h : j ∈ vs ∧ j < σ.length
      · rw [if_pos h, if_pos ⟨List.mem_cons_of_mem _ h.1, h.2⟩]
      · rw [if_neg h, if_neg fun z => h ⟨(List.mem_cons.mp z.1).resolve_left fun e => hv e.symm, z.2⟩]
theorem wipe_set {σ : L2.St} {i : Nat} {x : Option V} {vs : List Nat} (h : i ∈ vs) : L2.wipe (σ.set i x) vs = L2.wipe σ vs := by
  apply List.ext_getElem?
  intro j
  rw [wipe_get, wipe_get, List.length_set]
  by_cases hj : j ∈ vs ∧ j < σ.length
  · rw [if_pos hj, if_pos hj]
  · rw [if_neg hj, if_neg hj]
    by_cases hij : i = j
    · subst hij
      have : ¬ i < σ.length := fun z => hj ⟨h, z⟩
      rw [List.getElem?_eq_none (by simp; omega), List.getElem?_eq_none (by omega)]
    · rw [List.getElem?_set_ne hij]

/-! ### targets -/
abbrev TgF := D → Dn → Option Dn
abbrev TgFs := List D → Dn → Option Dn
section
variable {K : PySem.W.Frag}
def SimG (K : PySem.W.Frag) (g : TG) (sl : List Nat) (f : TgF) : Prop :=
  ∀ (ρ : List Addr) (H : Hp) (σ : L2.St) (δ δ' : Dn) (v : V) (d : D) (Q : L2.St → Hp → Prop), ER K ρ H σ δ → RV K ρ H v d → f d δ = some δ' →
    (∀ σ', ER K ρ H σ' δ' → (∀ vs : List Nat, (∀ i ∈ sl, i ∈ vs) → L2.wipe σ' vs = L2.wipe σ vs) → Q σ' H) → g v σ H Q
def SimGs (K : PySem.W.Frag) (g : TGs) (sl : List Nat) (f : TgFs) : Prop :=
  ∀ (ρ : List Addr) (H : Hp) (σ : L2.St) (δ δ' : Dn) (v : List V) (d : List D) (Q : L2.St → Hp → Prop), ER K ρ H σ δ → RVs K ρ H v d → f d δ = some δ' →
    (∀ σ', ER K ρ H σ' δ' → (∀ vs : List Nat, (∀ i ∈ sl, i ∈ vs) → L2.wipe σ' vs = L2.wipe σ vs) → Q σ' H) → g v σ H Q
def nmF (i : Nat) : TgF := fun d δ => some (δ.set i (some d))
theorem g_name {i : Nat} : SimG K (gName i) [i] (nmF i) := fun ρ H σ δ δ' v d Q e r h k => by
  cases h
  exact k _ (e.set r) fun vs hv => wipe_set (hv i List.mem_cons_self)
def nilF : TgFs := fun ds δ => match ds with
  | [] => some δ
  | _ => none
def consF (f : TgF) (g : TgFs) : TgFs := fun ds δ => match ds with
  | d :: ds => (f d δ).bind (g ds)
  | [] => none
theorem g_nil : SimGs K gNil [] nilF := fun ρ H σ δ δ' v d Q e r h k => by
  cases r with
  | nil => cases h; exact ⟨rfl, k σ e fun _ _ => rfl⟩
  | cons _ _ => cases h
theorem g_cons {g : TG} {gs : TGs} {s1 s2 : List Nat} {f : TgF} {fs : TgFs} (h1 : SimG K g s1 f) (h2 : SimGs K gs s2 fs) : SimGs K (gCons g gs) (s1 ++ s2) (consF f fs) := fun ρ H σ δ δ' v d Q e r h k => by
  cases r with
  | nil => cases h
  | @cons v vs d ds r rs =>
    obtain ⟨δ1, h3, h4⟩ := Option.bind_eq_some_iff.mp h
    refine ⟨v, vs, rfl, h1 ρ H σ δ δ1 v d _ e r h3 fun σ1 e1 w1 => ?_⟩
    refine h2 ρ H σ1 δ1 δ' vs ds _ e1 rs h4 fun σ2 e2 w2 => ?_
    exact k σ2 e2 fun ws hw => (w2 ws fun i hi => hw i (List.mem_append_right _ hi)).trans (w1 ws fun i hi => hw i (List.mem_append_left _ hi))
def tpF (n : Nat) (f : TgFs) : TgF := fun d δ => match d with
  | .tup ds => if ds.length = n then f ds δ else none
  | _ => none
theorem g_tup {n : Nat} {gs : TGs} {sl : List Nat} {fs : TgFs} (h : SimGs K gs sl fs) : SimG K (gTup K n gs) sl (tpF n fs) := fun ρ H σ δ δ' v d Q e r hf k => by
  cases r with
  | @tup a xs ds h1 l1 t1 =>
    unfold tpF at hf
    by_cases hn : ds.length = n
    · simp only [if_pos hn] at hf
      exact ⟨a, xs, rfl, h1, by rw [t1.length]; exact hn, h ρ H σ δ δ' xs ds Q e t1 hf k⟩
    · simp only [if_neg hn] at hf; cases hf
  | _ => cases hf
end

/-! ### what is walked -/
structure Src where
  items : List D
  chk : Store → Bool
/-- the walk J gives the items, while the objects at fp stand and the check holds -/
structure RunI (K : PySem.W.Frag) (Γ : Clss) (fp : List (Addr × HO)) (J : It) (ρ : List Addr) (H : Hp) (s : Src) : Prop where
  item : ∀ (ρ2 : List Addr) (μ2 : Store) (H2 : Hp), Up K ρ H ρ2 H2 → (∀ p ∈ fp, H2 p.1 = some p.2) → SR K Γ ρ2 μ2 H2 → s.chk μ2 = true → ∀ (i : Nat) (d : D), s.items[i]? = some d →
    J.go i H2 ∧ ∀ x H3, J.yld i H2 x H3 → Ext ρ2 H2 ρ2 H3 ∧ SR K Γ ρ2 μ2 H3 ∧ RV K ρ2 H3 x d
  stop : ∀ (ρ2 : List Addr) (μ2 : Store) (H2 : Hp), Up K ρ H ρ2 H2 → (∀ p ∈ fp, H2 p.1 = some p.2) → SR K Γ ρ2 μ2 H2 → s.chk μ2 = true → J.stop s.items.length H2
def RelI (K : PySem.W.Frag) (Γ : Clss) (H₀ : Hp) : List Addr → Hp → It → Src → Prop := fun ρ H J s =>
  s.items.length ≤ sizeLine ∧ ∃ fp : List (Addr × HO), (∀ p ∈ fp, H₀ p.1 = none ∧ H p.1 = some p.2 ∧ p.1 ∉ ρ ∧ NotTbl p.2) ∧ RunI K Γ fp J ρ H s
abbrev SrcG := Dn → Mn Src
def SimI (K : PySem.W.Frag) (Γ : Clss) (E : XK) (t : TI) (F : SrcG) : Prop :=
  ∀ (ρ : List Addr) (μ : Store) (δ : Dn) (σ : L2.St) (H : Hp), SR K Γ ρ μ H → ER K ρ H σ δ → ∀ Q : It → Hp → Prop, Post K Γ E (RelI K Γ H) ρ H (F δ μ) Q → t σ H Q
section
variable {K : PySem.W.Frag} {Γ : Clss} {E : XK} {ρ ρ1 ρ2 ρ' : List Addr} {H H1 H2 H' : Hp} {μ μ1 : Store} {σ : L2.St} {δ : Dn}
variable {ta tb tc : TE} {Fa Fb Fc : EG} {La Lb : AG} {X : Cx} {tg : Expr}
theorem SimI.go {α β : Type} {Rl : List Addr → Hp → β → α → Prop} {t : TI} {I : SrcG} {f : Src → Mn α} {Q : β → Hp → Prop} {P : It → Hp → Prop} (h : SimI K Γ E t I) (S : SR K Γ ρ μ H) (e : ER K ρ H σ δ) (hp : Post K Γ E Rl ρ H (bnd (I δ) f μ) Q)
    (k : ∀ (J : It) (s : Src) (ρ1 : List Addr) (μ1 : Store) (H1 : Hp), Ext ρ H ρ1 H1 → SR K Γ ρ1 μ1 H1 → RelI K Γ H ρ1 H1 J s → Post K Γ E Rl ρ1 H1 (f s μ1) Q → P J H1) : t σ H P :=
  Sim.go (T := fun P => t σ H P) (h ρ μ δ σ H S e) hp k
/-- a list or a tuple, whichever comes -/
def iSeq (K : PySem.W.Frag) (tl : TE) : TI := fun σ H R => tl σ H fun x H1 => ∃ a, x = .ref a ∧ ((∃ xs, SqL K H1 a xs) ∧ R (Itl K a) H1 ∨ (∃ xs, SqT K H1 a xs) ∧ R (Itt K a) H1)
theorem pi_seq {l : Expr} {tl : TE} (hl : PE X l tl) : PI X tg l (iSeq X.K tl) := by
  refine ⟨fun pins s σ H R I h => ?_⟩
  refine thn (hl.run pins s σ H _ I h) fun v s1 ⟨x, H1, I1, r1, a, e, q⟩ => ?_
  subst e
  rcases q with ⟨hx, q⟩ | ⟨hx, q⟩
  · have w : iList X.K (tC (.ref a)) σ H1 R := ⟨a, rfl, hx, q⟩
    cases r1
    obtain ⟨xs, hq⟩ := hx
    obtain ⟨its, rv, p, hz⟩ := I1.list hq
    refine wpAny_pyIter_list p.isList ⟨s1.heap.objs.size, [s1.heap.objs.size], _, _, H1, rfl, I1.kept (t' := s1.toks) fun b o e => Heap.get?_push_of_some _ e, turn_list a _, ⟨_, Heap.get?_push_size _ rfl, rfl, rfl⟩, fun b hb => ?_, q⟩
    rw [List.mem_singleton.mp hb]
    exact I1.fpOk (Nat.le_refl _) (I1.hok.fresh (Nat.le_refl _))
  · cases r1
    obtain ⟨xs, hq⟩ := hx
    obtain ⟨its, rv, p, hz⟩ := I1.tuple hq
    refine wpAny_pyIter_tuple (show s1.heap.IsTuple a its.toArray from p) ⟨s1.heap.objs.size, [s1.heap.objs.size], _, _, H1, rfl, I1.kept (t' := s1.toks) fun b o e => Heap.get?_push_of_some _ e, turn_tuple a _, ⟨_, Heap.get?_push_size _ rfl, rfl, rfl⟩, fun b hb => ?_, q⟩
    rw [List.mem_singleton.mp hb]
    exact I1.fpOk (Nat.le_refl _) (I1.hok.fresh (Nat.le_refl _))
/-- a value that is walked -/
def srcD (d : D) : Mn Src := match d with
  | .tup ds => ret ⟨ds, fun _ => true⟩
  | .fz ds => ret ⟨ds, fun _ => true⟩
  | .loc n => fun μ => match μ[n]? with
    | some (.lst ds) => .ok ⟨ds, fun μ => decide (μ[n]? = some (.lst ds))⟩ μ
    | _ => .stuck
  | _ => stk
def srcG (a : EG) : SrcG := fun δ => bnd (a δ) srcD
theorem runL {fp : List (Addr × HO)} {a : Addr} {ds : List D} {chk : Store → Bool}
    (h : ∀ (ρ2 : List Addr) (μ2 : Store) (H2 : Hp), Up K ρ H ρ2 H2 → (∀ p ∈ fp, H2 p.1 = some p.2) → SR K Γ ρ2 μ2 H2 → chk μ2 = true → ∃ xs, SqL K H2 a xs ∧ RVs K ρ2 H2 xs ds) : RunI K Γ fp (Itl K a) ρ H ⟨ds, chk⟩ := by
  refine ⟨fun ρ2 μ2 H2 u f S c i d hd => ?_, fun ρ2 μ2 H2 u f S c => ?_⟩
  · obtain ⟨xs, hx, r⟩ := h ρ2 μ2 H2 u f S c
    obtain ⟨v, hv, rv⟩ := r.getD hd
    refine ⟨⟨xs, v, hx, hv⟩, fun x H3 y => ?_⟩
    obtain ⟨e, y⟩ := y
    subst e
    have q := y xs hx
    rw [hv] at q; cases q
    exact ⟨Ext.refl, S, rv⟩
  · obtain ⟨xs, hx, r⟩ := h ρ2 μ2 H2 u f S c
    exact ⟨xs, hx, by rw [r.length]; exact Nat.le_refl _⟩
theorem runT {fp : List (Addr × HO)} {a : Addr} {xs : List V} {ds : List D} (hx : SqT K H a xs) (r : RVs K ρ H xs ds) : RunI K Γ fp (Itt K a) ρ H ⟨ds, fun _ => true⟩ := by
  refine ⟨fun ρ2 μ2 H2 u f S c i d hd => ?_, fun ρ2 μ2 H2 u f S c => ?_⟩
  · obtain ⟨v, hv, rv⟩ := r.getD hd
    refine ⟨⟨xs, v, u.sqT _ _ hx, hv⟩, fun x H3 y => ?_⟩
    obtain ⟨e, y⟩ := y
    subst e
    have q := y xs (u.sqT _ _ hx)
    rw [hv] at q; cases q
    exact ⟨Ext.refl, S, rv.up u⟩
  · exact ⟨xs, u.sqT _ _ hx, by rw [r.length]; exact Nat.le_refl _⟩
theorem sim_seq (ha : SimE K Γ E ta Fa) : SimI K Γ E (iSeq K ta) (srcG Fa) := fun ρ μ δ σ H S e Q hp => by
  refine ha.go S e hp fun v d ρ1 μ1 H1 x1 S1 r1 hp1 => ?_
  cases r1 with
  | @tup a xs ds h1 l1 t1 => exact ⟨a, rfl, .inr ⟨⟨xs, h1⟩, hp1 (Itt K a) ρ1 H1 Ext.refl S1 ⟨by rw [← t1.length]; exact l1, [], (fun _ z => nomatch z), runT h1 t1⟩⟩⟩
  | @fz a xs ds h1 l1 t1 => exact ⟨a, rfl, .inl ⟨⟨xs, h1.sq⟩, hp1 (Itl K a) ρ1 H1 Ext.refl S1 ⟨by rw [← t1.length]; exact l1, [], (fun _ z => nomatch z), runL fun ρ2 μ2 H2 u _ _ _ => ⟨xs, (u.fzL _ _ h1).sq, t1.up u⟩⟩⟩⟩
  | @loc a n hn =>
    obtain ⟨o, ho, x⟩ := S1.ob hn
    unfold srcD at hp1
    simp only [ho] at hp1
    cases x with
    | @lst xs ds e1 l1 r1 =>
      refine ⟨a, rfl, .inl ⟨⟨xs, SqL.of e1⟩, hp1 (Itl K a) ρ1 H1 Ext.refl S1 ⟨by show ds.length ≤ sizeLine; rw [← r1.length]; exact l1, [], (fun _ z => nomatch z), runL fun ρ2 μ2 H2 u _ S2 c => ?_⟩⟩⟩
      have y := S2.obs n a _ (u.sub n a hn) (of_decide_eq_true c)
      cases y with
      | @lst ys _ e2 l2 r2 => exact ⟨ys, SqL.of e2, r2⟩
    | _ => exact hp1.elim
  | _ => exact hp1.elim
/-- a new list that is walked -/
def srcL (a : AG) : SrcG := fun δ => bnd (a δ) fun ds => ret ⟨ds, fun _ => true⟩
theorem sim_seqL (ha : SimL K Γ E ta La) : SimI K Γ E (iSeq K ta) (srcL La) := fun ρ μ δ σ H S e Q hp => by
  refine ha.go S e hp fun v d ρ1 μ1 H1 x1 S1 r1 hp1 => ?_
  obtain ⟨p, xs, rfl, h0, hn, hl, hz, rr⟩ := r1
  refine ⟨p, rfl, .inl ⟨⟨xs, SqL.of hl⟩, hp1 (Itl K p) ρ1 H1 Ext.refl S1 ⟨by show d.length ≤ sizeLine; rw [← rr.length]; exact hz, [(p, .lst xs)], fun q hq => ?_, runL fun ρ2 μ2 H2 u f _ _ => ⟨xs, SqL.of (f _ (List.mem_singleton.mpr rfl)), rr.up u⟩⟩⟩⟩
  rw [List.mem_singleton.mp hq]
  exact ⟨h0, hl, hn, trivial⟩
/-- ranges -/
def rngS (lo : Int) (n : Nat) : Src := ⟨(List.range n).map fun i => .int (lo + (i : Nat)), fun _ => true⟩
theorem runR {lo : Int} {n : Nat} : RunI K Γ [] (Itr lo n) ρ H (rngS lo n) := by
  refine ⟨fun ρ2 μ2 H2 u f S c i d hd => ?_, fun ρ2 μ2 H2 u f S c => ?_⟩
  · unfold rngS at hd
    simp only [List.getElem?_map] at hd
    obtain ⟨j, hj, rfl⟩ := Option.map_eq_some_iff.mp hd
    obtain ⟨h1, h2⟩ := List.getElem?_eq_some_iff.mp hj
    rw [List.getElem_range] at h2
    subst h2
    rw [List.length_range] at h1
    refine ⟨h1, fun x H3 y => ?_⟩
    obtain ⟨e, y⟩ := y
    subst e y
    exact ⟨Ext.refl, S, .int _⟩
  · show n ≤ (rngS lo n).items.length
    unfold rngS; simp
def rng1S (ds : List D) : Mn Src := match ds with
  | [.int j] => if -(2 ^ 62) ≤ j ∧ j.toNat ≤ sizeLine then ret (rngS 0 j.toNat) else stk
  | _ => stk
def rng2S (ds : List D) : Mn Src := match ds with
  | [.int i, .int j] => if (-(2 ^ 62) ≤ i ∧ i < 2 ^ 62 ∧ -(2 ^ 62) ≤ j ∧ j < 2 ^ 62) ∧ (j - i).toNat ≤ sizeLine then ret (rngS i (j - i).toNat) else stk
  | _ => stk
def rng1G (a : AG) : SrcG := fun δ => bnd (a δ) rng1S
def rng2G (a : AG) : SrcG := fun δ => bnd (a δ) rng2S
theorem rngLen {lo : Int} {n : Nat} : (rngS lo n).items.length = n := by unfold rngS; simp
theorem sim_rng1 {t : TA} (ha : SimA K Γ E t La) : SimI K Γ E (iRng1 t) (rng1G La) := fun ρ μ δ σ H S e Q hp => by
  refine ha.go S e hp fun v d ρ1 μ1 H1 x1 S1 r1 hp1 => ?_
  cases r1 with
  | nil => exact hp1.elim
  | cons h t => cases t with
    | cons _ _ => cases h <;> exact hp1.elim
    | nil => cases h with
      | int j =>
        unfold rng1S at hp1
        by_cases hj : -(2 ^ 62) ≤ j ∧ j.toNat ≤ sizeLine
        · simp only [if_pos hj] at hp1
          have hs := sizeLine_eq
          exact ⟨j, rfl, hj.1, by omega, hp1 (Itr 0 j.toNat) ρ1 H1 Ext.refl S1 ⟨by rw [rngLen]; exact hj.2, [], (fun _ z => nomatch z), runR⟩⟩
        · simp only [if_neg hj] at hp1; exact hp1.elim
      | _ => exact hp1.elim
theorem sim_rng2 {t : TA} (ha : SimA K Γ E t La) : SimI K Γ E (iRng2 t) (rng2G La) := fun ρ μ δ σ H S e Q hp => by
  refine ha.go S e hp fun v d ρ1 μ1 H1 x1 S1 r1 hp1 => ?_
  cases r1 with
  | nil => exact hp1.elim
  | cons h t => cases t with
    | nil => cases h <;> exact hp1.elim
    | cons h2 t => cases t with
      | cons _ _ => cases h <;> cases h2 <;> exact hp1.elim
      | nil => cases h with
        | int i => cases h2 with
          | int j =>
            unfold rng2S at hp1
            by_cases hj : (-(2 ^ 62) ≤ i ∧ i < 2 ^ 62 ∧ -(2 ^ 62) ≤ j ∧ j < 2 ^ 62) ∧ (j - i).toNat ≤ sizeLine
            · simp only [if_pos hj] at hp1
              exact ⟨i, j, rfl, hj.1, hp1 (Itr i (j - i).toNat) ρ1 H1 Ext.refl S1 ⟨by rw [rngLen]; exact hj.2, [], (fun _ z => nomatch z), runR⟩⟩
            · simp only [if_neg hj] at hp1; exact hp1.elim
          | _ => exact hp1.elim
        | _ => cases h2 <;> exact hp1.elim
end

/-! ### comprehensions -/
/-- the loop of a comprehension: own, the slots of its names; ck: whether the list's size is looked at -/
def lcL (ck : Bool) (own : List Nat) (set : TgF) (tst : BG) (elt : EG) (chk : Store → Bool) (δ : Dn) : List D → List D → Mn (List D)
  | [], acc => fun μ => if chk μ = true then .ok acc μ else .stuck
  | x :: xs, acc => fun μ => if chk μ = true then
      match set x (wipeD δ own) with
      | none => .stuck
      | some δ1 => match tst δ1 μ with
        | .ok b μ1 => if b = true then
            match elt δ1 μ1 with
            | .ok d μ2 => if ck = true ∧ sizeLine ≤ acc.length then .stuck else lcL ck own set tst elt chk δ xs (acc ++ [d]) μ2
            | _ => .stuck
          else lcL ck own set tst elt chk δ xs acc μ1
        | _ => .stuck
    else .stuck
def lcG (own : List Nat) (I : SrcG) (set : TgF) (tst : BG) (elt : EG) : AG := fun δ => bnd (I δ) fun s => lcL false own set tst elt s.chk δ s.items []
/-- inside a comprehension nothing is raised -/
abbrev EN : XK := fun _ _ _ => False

/-- where a comprehension stands: ρa Ha, ahead of its list at D; ρb Hb, where the walked thing came -/
structure LoopSt (K : PySem.W.Frag) (Γ : Clss) (ρa : List Addr) (Ha : Hp) (ρb : List Addr) (Hb : Hp) (fp : List (Addr × HO)) (A : Addr) (ρ : List Addr) (μ : Store) (H : Hp) (ds : List D) : Prop where
  ext : Ext ρa Ha ρ H
  fresh : Ha A = none
  sr : SR K Γ ρ μ H
  up : Up K ρb Hb ρ H
  fps : ∀ p ∈ fp, H p.1 = some p.2 ∧ p.1 ∉ ρ ∧ NotTbl p.2 ∧ p.1 ≠ A
  acc : ∃ xs, H A = some (.lst xs) ∧ xs.length ≤ sizeLine ∧ RVs K ρ H xs ds
  out : A ∉ ρ
section
variable {K : PySem.W.Frag} {Γ : Clss} {E : XK} {ρ ρ1 ρ2 ρ' ρa ρb : List Addr} {H H1 H2 H' Ha Hb : Hp} {μ μ1 : Store} {σ : L2.St} {δ : Dn} {fp : List (Addr × HO)} {A : Addr} {ds : List D}
theorem LoopSt.step (L : LoopSt K Γ ρa Ha ρb Hb fp A ρ μ H ds) (x : Ext ρ H ρ1 H1) (S : SR K Γ ρ1 μ1 H1) : LoopSt K Γ ρa Ha ρb Hb fp A ρ1 μ1 H1 ds := by
  obtain ⟨xs, h1, h2, h3⟩ := L.acc
  refine ⟨L.ext.trans x, L.fresh, S, L.up.trans x.up, fun p hp => ?_, ⟨xs, x.keep A _ h1 L.out trivial, h2, h3.ext x⟩, x.notIn h1 L.out⟩
  obtain ⟨a, b, c, d⟩ := L.fps p hp
  exact ⟨x.keep p.1 _ a b c, x.notIn a b, c, d⟩
theorem LoopSt.push {v : V} {d : D} (L : LoopSt K Γ ρa Ha ρb Hb fp A ρ μ H ds) (r : RV K ρ H v d) {xs : List V} (h : H A = some (.lst xs)) (hl : xs.length < sizeLine) : LoopSt K Γ ρa Ha ρb Hb fp A ρ μ (upd H A (.lst (xs ++ [v]))) (ds ++ [d]) := by
  obtain ⟨ys, h1, h2, h3⟩ := L.acc
  rw [h] at h1; cases h1
  have u : Up K ρ H ρ (upd H A (.lst (xs ++ [v]))) := Up.poke h trivial
  refine ⟨L.ext.poke L.fresh ⟨_, h⟩, L.fresh, L.sr.poke L.out h trivial, L.up.trans u, fun p hp => ?_, ⟨_, upd_same, by simp; omega, (h3.snoc r).up u⟩, L.out⟩
  obtain ⟨a, b, c, d⟩ := L.fps p hp
  exact ⟨by rw [upd_ne d]; exact a, b, c, d⟩
/-- how a comprehension's loop ends -/
def Fin (K : PySem.W.Frag) (Γ : Clss) (ρa : List Addr) (Ha : Hp) (ρb : List Addr) (Hb : Hp) (fp : List (Addr × HO)) (A : Addr) (Done : Hp → Prop) (r : Rs (List D)) : Prop := match r with
  | .ok ds μ' => ∀ (ρ2 : List Addr) (H2 : Hp), LoopSt K Γ ρa Ha ρb Hb fp A ρ2 μ' H2 ds → Done H2
  | _ => False
theorem lc_run {ck : Bool} {own sl : List Nat} {g : TG} {set : TgF} {tt : TT} {tst : BG} {te : TE} {elt : EG} {J : It} {s : Src} {Done : Hp → Prop} {acc0 : List D}
    (hg : SimG K g sl set) (hsl : ∀ i ∈ sl, i ∈ own) (ht : SimT K Γ EN tt tst) (he : SimE K Γ EN te elt) (hr : RunI K Γ fp J ρb Hb s) (hE : ER K ρb Hb σ δ)
    (hb : ck = true ∨ acc0.length + s.items.length ≤ sizeLine) (L0 : LoopSt K Γ ρa Ha ρb Hb fp A ρ μ H acc0) (hf : Fin K Γ ρa Ha ρb Hb fp A Done (lcL ck own set tst elt s.chk δ s.items acc0 μ)) :
    ∃ W : Nat → Nat → Hp → Prop, (∃ m, W 0 m H) ∧ ∀ i m H, W i m H → (J.stop i H ∧ Done H) ∨ (J.go i H ∧ ∃ Nx : Hp → Prop, (∀ H', Nx H' → ∃ m', m' < m ∧ W (i + 1) m' H') ∧ ∀ x H', J.yld i H x H' → g x (L2.wipe σ own) H' fun σ2 H2 => L2.wipe σ2 own = L2.wipe σ own ∧ tt σ2 H2 fun b H3 =>
      if b = true then te σ2 H3 fun y H4 => ∃ acc, H4 A = some (.lst acc) ∧ acc.length < sizeLine ∧ Nx (upd H4 A (.lst (acc ++ [y]))) else Nx H3) := by
  refine ⟨fun i m H => m = s.items.length - i ∧ i ≤ s.items.length ∧ ∃ ρ2 μ2 ds, LoopSt K Γ ρa Ha ρb Hb fp A ρ2 μ2 H ds ∧ (ck = true ∨ ds.length + (s.items.length - i) ≤ sizeLine) ∧ Fin K Γ ρa Ha ρb Hb fp A Done (lcL ck own set tst elt s.chk δ (s.items.drop i) ds μ2), ⟨s.items.length, by simp, Nat.zero_le _, ρ, μ, acc0, L0, by simpa using hb, by simpa using hf⟩, ?_⟩
  rintro i m H ⟨rfl, hi, ρ2, μ2, ds, L, hb2, hf2⟩
  by_cases hlt : i < s.items.length
  · obtain ⟨d, hd⟩ : ∃ d, s.items[i]? = some d := ⟨_, List.getElem?_eq_getElem hlt⟩
    have e : s.items.drop i = d :: s.items.drop (i + 1) := by
      rw [List.drop_eq_getElem_cons hlt]
      rw [List.getElem?_eq_getElem hlt] at hd
      cases hd; rfl
    rw [e] at hf2
    unfold lcL at hf2
    by_cases hc : s.chk μ2 = true
    · simp only [if_pos hc] at hf2
      obtain ⟨hgo, hy⟩ := hr.item ρ2 μ2 H L.up (fun p hp => (L.fps p hp).1) L.sr hc i d hd
      refine .inr ⟨hgo, fun H' => ∃ ρ2 μ2 ds, LoopSt K Γ ρa Ha ρb Hb fp A ρ2 μ2 H' ds ∧ (ck = true ∨ ds.length + (s.items.length - (i + 1)) ≤ sizeLine) ∧ Fin K Γ ρa Ha ρb Hb fp A Done (lcL ck own set tst elt s.chk δ (s.items.drop (i + 1)) ds μ2),
        fun H' h => ⟨s.items.length - (i + 1), by omega, rfl, hlt, h⟩, fun x H3 y => ?_⟩
      obtain ⟨x3, S3, r3⟩ := hy x H3 y
      have L3 := L.step x3 S3
      cases h1 : set d (wipeD δ own) with
      | none => simp only [h1] at hf2; exact hf2.elim
      | some δ1 =>
        simp only [h1] at hf2
        refine hg ρ2 H3 _ _ δ1 x d _ ((hE.up L3.up).wipe own) r3 h1 fun σ2 e2 w2 => ⟨(w2 own hsl).trans ?_, ?_⟩
        · apply List.ext_getElem?
          intro j
          simp only [wipe_get, wipe_length]
          split <;> simp_all
        cases h2 : tst δ1 μ2 with
        | ex _ _ => simp only [h2] at hf2; exact hf2.elim
        | stuck => simp only [h2] at hf2; exact hf2.elim
        | ok b μ3 =>
          simp only [h2] at hf2
          refine ht ρ2 μ2 δ1 σ2 H3 S3 e2 _ ?_
          rw [h2]
          intro b' ρ4 H4 x4 S4 eb
          cases eb
          have L4 := L3.step x4 S4
          cases b with
          | false =>
            simp only [Bool.false_eq_true, if_false] at hf2 ⊢
            exact ⟨ρ4, μ3, ds, L4, by rcases hb2 with z | z; exact .inl z; exact .inr (by omega), hf2⟩
          | true =>
            simp only [if_true] at hf2 ⊢
            cases h3 : elt δ1 μ3 with
            | ex _ _ => simp only [h3] at hf2; exact hf2.elim
            | stuck => simp only [h3] at hf2; exact hf2.elim
            | ok c μ5 =>
              simp only [h3] at hf2
              refine he ρ4 μ3 δ1 σ2 H4 S4 (e2.ext x4) _ ?_
              rw [h3]
              intro v ρ5 H5 x5 S5 rv
              have L5 := L4.step x5 S5
              obtain ⟨xs, a1, a2, a3⟩ := L5.acc
              have hlen := a3.length
              by_cases hk : ck = true ∧ sizeLine ≤ ds.length
              · rw [if_pos hk] at hf2; exact hf2.elim
              · rw [if_neg hk] at hf2
                have hl : xs.length < sizeLine := by
                  rcases hb2 with z | z
                  · exact Nat.lt_of_not_le fun q => hk ⟨z, by omega⟩
                  · omega
                refine ⟨xs, a1, hl, ρ5, μ5, ds ++ [c], L5.push rv a1 hl, ?_, hf2⟩
                rcases hb2 with z | z
                · exact .inl z
                · exact .inr (by simp; omega)
    · simp only [if_neg hc] at hf2; exact hf2.elim
  · have ei : i = s.items.length := by omega
    subst ei
    rw [List.drop_length] at hf2
    unfold lcL at hf2
    by_cases hc : s.chk μ2 = true
    · simp only [if_pos hc] at hf2
      exact .inl ⟨hr.stop ρ2 μ2 H L.up (fun p hp => (L.fps p hp).1) L.sr hc, hf2 ρ2 H L⟩
    · simp only [if_neg hc] at hf2; exact hf2.elim
theorem lcL_noex {ck : Bool} {own : List Nat} {set : TgF} {tst : BG} {elt : EG} {chk : Store → Bool} {δ : Dn} {x : Exn} {ν : Store} : ∀ (xs acc : List D) (μ : Store), lcL ck own set tst elt chk δ xs acc μ ≠ .ex x ν := by
  intro xs
  induction xs with
  | nil => intro acc μ h; unfold lcL at h; split at h <;> cases h
  | cons y ys ih =>
    intro acc μ h
    unfold lcL at h
    split at h
    · split at h
      · cases h
      · split at h
        · split at h
          · split at h
            · split at h
              · cases h
              · exact ih _ _ h
            · cases h
          · exact ih _ _ h
        · cases h
    · cases h
theorem sim_lc {own sl : List Nat} {wi : TI} {I : SrcG} {g : TG} {set : TgF} {tt : TT} {tst : BG} {te : TE} {elt : EG} (hi : SimI K Γ E wi I) (hg : SimG K g sl set) (ht : SimT K Γ EN tt tst) (he : SimE K Γ EN te elt) (hsl : ∀ i ∈ sl, i ∈ own := by decide) :
    SimL K Γ E (tLc wi g tt te own) (lcG own I set tst elt) := fun ρ μ δ σ H S e Q hp => by
  refine hi.go S e hp fun J s ρ1 μ1 H1 x1 S1 r1 hp1 A hA => ?_
  obtain ⟨hlen, fp, hfp, hr⟩ := r1
  have hAρ : A ∉ ρ1 := S1.fresh hA
  have x2 : Ext ρ1 H1 ρ1 (upd H1 A (.lst [])) := Ext.new hA
  refine lc_run (ck := false) (Done := fun H => Q (.ref A) H) (ρa := ρ1) (Ha := H1) (ρb := ρ1) (Hb := H1) (fp := fp) (acc0 := []) hg hsl ht he hr (e.ext x1) (.inr (by simpa using hlen)) ⟨x2, hA, S1.new hA, x2.up, fun p hp => ?_, ⟨[], upd_same, Nat.zero_le _, .nil⟩, hAρ⟩ ?_
  · obtain ⟨a, b, c, d⟩ := hfp p hp
    have hne := ne_of_none b hA
    exact ⟨by rw [upd_ne hne]; exact b, c, d, hne⟩
  · cases h : lcL false own set tst elt s.chk δ s.items [] μ1 with
    | ok ds μ' =>
      intro ρ2 H2 L
      rw [h] at hp1
      obtain ⟨xs, a1, a2, a3⟩ := L.acc
      exact hp1 (.ref A) ρ2 H2 L.ext L.sr ⟨A, xs, rfl, x1.there A hA, L.out, a1, a2, a3⟩
    | ex y ν => exact absurd h (lcL_noex _ _ _)
    | stuck => rw [h] at hp1; exact hp1.elim
end
end Sim

set_option autoImplicit false
/-! Sim, part 5: statements, loops, defs. -/
namespace Sim
open PySem L2

/-- how a block ends -/
inductive Ss where
  | nx (δ : Dn) (μ : Store)
  | rt (d : D) (μ : Store)
  | bk (δ : Dn) (μ : Store)
  | ct (δ : Dn) (μ : Store)
  | ex (x : Exn) (μ : Store)
  | stuck
abbrev SG := Dn → Store → Ss

def PostS (K : PySem.W.Frag) (Γ : Clss) (E : XK) (ρ : List Addr) (H : Hp) (r : Ss) (T : Ends) : Prop := match r with
  | .nx δ' μ' => ∀ (σ' : L2.St) (ρ' : List Addr) (H' : Hp), Ext ρ H ρ' H' → SR K Γ ρ' μ' H' → ER K ρ' H' σ' δ' → T.nx σ' H'
  | .rt d μ' => ∀ (v : V) (ρ' : List Addr) (H' : Hp), Ext ρ H ρ' H' → SR K Γ ρ' μ' H' → RV K ρ' H' v d → T.rt v H'
  | .bk δ' μ' => ∀ (σ' : L2.St) (ρ' : List Addr) (H' : Hp), Ext ρ H ρ' H' → SR K Γ ρ' μ' H' → ER K ρ' H' σ' δ' → T.bk σ' H'
  | .ct δ' μ' => ∀ (σ' : L2.St) (ρ' : List Addr) (H' : Hp), Ext ρ H ρ' H' → SR K Γ ρ' μ' H' → ER K ρ' H' σ' δ' → T.ct σ' H'
  | .ex x μ' => ∀ (ρ' : List Addr) (H' : Hp) (C : Addr) (od : Option Addr), Ext ρ H ρ' H' → SR K Γ ρ' μ' H' → Γ x.cls = some C → XD K ρ' H' od x.fs → E (.ref C) od H'
  | .stuck => False
def SimS (K : PySem.W.Frag) (Γ : Clss) (E : XK) (t : TS) (G : SG) : Prop :=
  ∀ (ρ : List Addr) (μ : Store) (δ : Dn) (σ : L2.St) (H : Hp), SR K Γ ρ μ H → ER K ρ H σ δ → ∀ T : Ends, PostS K Γ E ρ H (G δ μ) T → t T σ H
/-- a value, then a statement's end -/
def thenS {α : Type} (m : Mn α) (f : α → Store → Ss) : Store → Ss := fun μ => match m μ with
  | .ok a μ' => f a μ'
  | .ex x μ' => .ex x μ'
  | .stuck => .stuck
theorem thenS_ok {α : Type} {m : Mn α} {f : α → Store → Ss} {μ μ' : Store} {a : α} (h : m μ = .ok a μ') : thenS m f μ = f a μ' := by unfold thenS; rw [h]
section
variable {K : PySem.W.Frag} {Γ : Clss} {E : XK} {ρ ρ1 ρ2 ρ' : List Addr} {H H1 H2 H' : Hp} {μ μ1 : Store} {σ : L2.St} {δ : Dn}
variable {ta tb tc te : TE} {Fa Fb Fc : EG} {La Lb : AG} {t u : TS} {G G' : SG} {T : Ends}
theorem PostS.weak {r : Ss} (x : Ext ρ H ρ1 H1) (h : PostS K Γ E ρ H r T) : PostS K Γ E ρ1 H1 r T := by
  cases r with
  | nx δ' μ' => exact fun σ' ρ' H' e s r => h σ' ρ' H' (x.trans e) s r
  | rt d μ' => exact fun v ρ' H' e s r => h v ρ' H' (x.trans e) s r
  | bk δ' μ' => exact fun σ' ρ' H' e s r => h σ' ρ' H' (x.trans e) s r
  | ct δ' μ' => exact fun σ' ρ' H' e s r => h σ' ρ' H' (x.trans e) s r
  | ex y μ' => exact fun ρ' H' C od e s g d => h ρ' H' C od (x.trans e) s g d
  | stuck => exact h
theorem goS {γ ζ : Type} {Rm : List Addr → Hp → ζ → γ → Prop} {m : Mn γ} {f : γ → Store → Ss} {P : ζ → Hp → Prop} {Z : (ζ → Hp → Prop) → Prop}
    (h : ∀ P : ζ → Hp → Prop, Post K Γ E Rm ρ H (m μ) P → Z P) (hp : PostS K Γ E ρ H (thenS m f μ) T)
    (k : ∀ (b : ζ) (a : γ) (ρ1 : List Addr) (μ1 : Store) (H1 : Hp), Ext ρ H ρ1 H1 → SR K Γ ρ1 μ1 H1 → Rm ρ1 H1 b a → PostS K Γ E ρ1 H1 (f a μ1) T → P b H1) : Z P := by
  refine h P ?_
  unfold thenS at hp
  cases e : m μ with
  | ok a μ' =>
    rw [e] at hp
    exact fun b ρ' H' x s r => k b a ρ' μ' H' x s r (hp.weak x)
  | ex y μ' => rw [e] at hp; exact hp
  | stuck => rw [e] at hp; exact hp.elim
theorem SimE.goS {f : D → Store → Ss} {P : VK} (h : SimE K Γ E ta Fa) (S : SR K Γ ρ μ H) (e : ER K ρ H σ δ) (hp : PostS K Γ E ρ H (thenS (Fa δ) f μ) T)
    (k : ∀ (v : V) (d : D) (ρ1 : List Addr) (μ1 : Store) (H1 : Hp), Ext ρ H ρ1 H1 → SR K Γ ρ1 μ1 H1 → RV K ρ1 H1 v d → PostS K Γ E ρ1 H1 (f d μ1) T → P v H1) : ta σ H P :=
  Sim.goS (Z := fun P => ta σ H P) (h ρ μ δ σ H S e) hp k
theorem SimA.goS {t : TA} {f : List D → Store → Ss} {P : List V → Hp → Prop} (h : SimA K Γ E t La) (S : SR K Γ ρ μ H) (e : ER K ρ H σ δ) (hp : PostS K Γ E ρ H (thenS (La δ) f μ) T)
    (k : ∀ (v : List V) (d : List D) (ρ1 : List Addr) (μ1 : Store) (H1 : Hp), Ext ρ H ρ1 H1 → SR K Γ ρ1 μ1 H1 → RVs K ρ1 H1 v d → PostS K Γ E ρ1 H1 (f d μ1) T → P v H1) : t σ H P :=
  Sim.goS (Z := fun P => t σ H P) (h ρ μ δ σ H S e) hp k
theorem SimT.goS {t : TT} {B : BG} {f : Bool → Store → Ss} {P : Bool → Hp → Prop} (h : SimT K Γ E t B) (S : SR K Γ ρ μ H) (e : ER K ρ H σ δ) (hp : PostS K Γ E ρ H (thenS (B δ) f μ) T)
    (k : ∀ (b : Bool) (ρ1 : List Addr) (μ1 : Store) (H1 : Hp), Ext ρ H ρ1 H1 → SR K Γ ρ1 μ1 H1 → PostS K Γ E ρ1 H1 (f b μ1) T → P b H1) : t σ H P :=
  Sim.goS (Z := fun P => t σ H P) (h ρ μ δ σ H S e) hp fun b c ρ1 μ1 H1 x s r hq => by cases r; exact k b ρ1 μ1 H1 x s hq
theorem SimI.goS {t : TI} {I : SrcG} {f : Src → Store → Ss} {P : It → Hp → Prop} (h : SimI K Γ E t I) (S : SR K Γ ρ μ H) (e : ER K ρ H σ δ) (hp : PostS K Γ E ρ H (thenS (I δ) f μ) T)
    (k : ∀ (J : It) (s : Src) (ρ1 : List Addr) (μ1 : Store) (H1 : Hp), Ext ρ H ρ1 H1 → SR K Γ ρ1 μ1 H1 → RelI K Γ H ρ1 H1 J s → PostS K Γ E ρ1 H1 (f s μ1) T → P J H1) : t σ H P :=
  Sim.goS (Z := fun P => t σ H P) (h ρ μ δ σ H S e) hp k

/-! ### small statements -/
def nextG : SG := fun δ μ => .nx δ μ
theorem ss_next : SimS K Γ E tNext nextG := fun ρ μ δ σ H S e T hp => hp σ ρ H Ext.refl S e
def seqG (a b : SG) : SG := fun δ μ => match a δ μ with
  | .nx δ' μ' => b δ' μ'
  | r => r
theorem ss_seq (ha : SimS K Γ E t G) (hb : SimS K Γ E u G') : SimS K Γ E (tSeq t u) (seqG G G') := fun ρ μ δ σ H S e T hp => by
  refine ha ρ μ δ σ H S e _ ?_
  unfold seqG at hp
  cases h : G δ μ with
  | nx δ' μ' =>
    rw [h] at hp
    exact fun σ' ρ' H' x s r => hb ρ' μ' δ' σ' H' s r T (hp.weak x)
  | rt d μ' => rw [h] at hp; exact hp
  | bk d μ' => rw [h] at hp; exact hp
  | ct d μ' => rw [h] at hp; exact hp
  | ex d μ' => rw [h] at hp; exact hp
  | stuck => rw [h] at hp; exact hp.elim
def setG (f : TgF) (a : EG) : SG := fun δ => thenS (a δ) fun d μ => match f d δ with
  | some δ' => .nx δ' μ
  | none => .stuck
theorem ss_asg {g : TG} {sl : List Nat} {f : TgF} (ha : SimE K Γ E ta Fa) (hg : SimG K g sl f) : SimS K Γ E (tAsg ta g) (setG f Fa) := fun ρ μ δ σ H S e T hp => by
  refine ha.goS S e hp fun v d ρ1 μ1 H1 x1 S1 r1 hp1 => ?_
  cases h : f d δ with
  | none => simp only [h] at hp1; exact hp1.elim
  | some δ' =>
    simp only [h] at hp1
    exact hg ρ1 H1 σ δ δ' v d T.nx (e.ext x1) r1 h fun σ' e' _ => hp1 σ' ρ1 H1 Ext.refl S1 e'
def retG (a : EG) : SG := fun δ => thenS (a δ) fun d μ => .rt d μ
theorem ss_ret (ha : SimE K Γ E ta Fa) : SimS K Γ E (tRet ta) (retG Fa) := fun ρ μ δ σ H S e T hp =>
  ha.goS S e hp fun v d ρ1 μ1 H1 x1 S1 r1 hp1 => hp1 v ρ1 H1 Ext.refl S1 r1
def retNG : SG := fun _ μ => .rt .non μ
theorem ss_retN : SimS K Γ E tRetN retNG := fun ρ μ δ σ H S e T hp => hp .non ρ H Ext.refl S .non
def dropG (a : EG) : SG := fun δ => thenS (a δ) fun _ μ => .nx δ μ
theorem ss_drop (ha : SimE K Γ E ta Fa) : SimS K Γ E (tDrop ta) (dropG Fa) := fun ρ μ δ σ H S e T hp =>
  ha.goS S e hp fun v d ρ1 μ1 H1 x1 S1 r1 hp1 => hp1 σ ρ1 H1 Ext.refl S1 (e.ext x1)
def iteG (c : BG) (a b : SG) : SG := fun δ => thenS (c δ) fun k μ => if k = true then a δ μ else b δ μ
theorem ss_if {tt : TT} {B : BG} (hc : SimT K Γ E tt B) (ha : SimS K Γ E t G) (hb : SimS K Γ E u G') : SimS K Γ E (tIfS tt t u) (iteG B G G') := fun ρ μ δ σ H S e T hp => by
  refine hc.goS S e hp fun b ρ1 μ1 H1 x1 S1 hp1 => ?_
  cases b with
  | true => exact ha ρ1 μ1 δ σ H1 S1 (e.ext x1) T hp1
  | false => exact hb ρ1 μ1 δ σ H1 S1 (e.ext x1) T hp1
def noG : SG := fun _ _ => .stuck
theorem ss_never : SimS K Γ E tNever noG := fun ρ μ δ σ H S e T hp => hp
def bkG : SG := fun δ μ => .bk δ μ
def ctG : SG := fun δ μ => .ct δ μ
theorem ss_break : SimS K Γ E tBreak bkG := fun ρ μ δ σ H S e T hp => hp σ ρ H Ext.refl S e
theorem ss_cont : SimS K Γ E tCont ctG := fun ρ μ δ σ H S e T hp => hp σ ρ H Ext.refl S e
/-- a, b = x, y -/
def parG (i j : Nat) (a : AG) : SG := fun δ => thenS (a δ) fun ds μ => match ds with
  | [x, y] => .nx ((δ.set i (some x)).set j (some y)) μ
  | _ => .stuck
theorem ss_par {i j : Nat} {t : TA} (ha : SimA K Γ E t La) : SimS K Γ E (tPar i j t) (parG i j La) := fun ρ μ δ σ H S e T hp => by
  refine ha.goS S e hp fun vs ds ρ1 μ1 H1 x1 S1 r1 hp1 => ?_
  cases r1 with
  | nil => exact hp1.elim
  | @cons v vs d ds r rs => cases rs with
    | nil => exact hp1.elim
    | @cons w ws c cs r' rs => cases rs with
      | nil => exact ⟨v, w, rfl, hp1 _ ρ1 H1 Ext.refl S1 (((e.ext x1).set r).set r')⟩
      | cons _ _ => exact hp1.elim

/-! ### for -/
def forL (set : TgF) (body : SG) (chk : Store → Bool) : List D → SG
  | [], δ, μ => if chk μ = true then .nx δ μ else .stuck
  | x :: xs, δ, μ => if chk μ = true then
      match set x δ with
      | none => .stuck
      | some δ1 => match body δ1 μ with
        | .nx δ2 μ2 => forL set body chk xs δ2 μ2
        | .ct δ2 μ2 => forL set body chk xs δ2 μ2
        | .bk δ2 μ2 => .nx δ2 μ2
        | r => r
    else .stuck
def forG (I : SrcG) (set : TgF) (body : SG) : SG := fun δ => thenS (I δ) fun s => forL set body s.chk s.items δ
theorem ss_for {wi : TI} {I : SrcG} {g : TG} {sl : List Nat} {set : TgF} {tb : TS} (hi : SimI K Γ E wi I) (hg : SimG K g sl set) (hb : SimS K Γ E tb G) : SimS K Γ E (tFor wi g tb) (forG I set G) := fun ρ μ δ σ H S e T hp => by
  refine hi.goS S e hp fun J s ρ1 μ1 H1 x1 S1 r1 hp1 => ?_
  obtain ⟨hlen, fp, hfp, hr⟩ := r1
  refine ⟨fun i m σ H => m = s.items.length - i ∧ i ≤ s.items.length ∧ ∃ ρ2 μ2 δ2, Ext ρ1 H1 ρ2 H ∧ SR K Γ ρ2 μ2 H ∧ ER K ρ2 H σ δ2 ∧ PostS K Γ E ρ2 H (forL set G s.chk (s.items.drop i) δ2 μ2) T, ⟨s.items.length, by simp, Nat.zero_le _, ρ1, μ1, δ, Ext.refl, S1, e.ext x1, by simpa using hp1⟩, ?_⟩
  rintro i m σ2 H2 ⟨rfl, hi, ρ2, μ2, δ2, x2, S2, e2, hp2⟩
  have hf : ∀ p ∈ fp, H2 p.1 = some p.2 := fun p hp => by
    obtain ⟨_, b, c, d⟩ := hfp p hp
    exact x2.keep p.1 _ b c d
  by_cases hlt : i < s.items.length
  · obtain ⟨d, hd⟩ : ∃ d, s.items[i]? = some d := ⟨_, List.getElem?_eq_getElem hlt⟩
    have ee : s.items.drop i = d :: s.items.drop (i + 1) := by
      rw [List.drop_eq_getElem_cons hlt]
      rw [List.getElem?_eq_getElem hlt] at hd
      cases hd; rfl
    rw [ee] at hp2
    unfold forL at hp2
    by_cases hc : s.chk μ2 = true
    · simp only [if_pos hc] at hp2
      obtain ⟨hgo, hy⟩ := hr.item ρ2 μ2 H2 x2.up hf S2 hc i d hd
      refine .inr ⟨hgo, fun σ H => ∃ ρ2 μ2 δ2, Ext ρ1 H1 ρ2 H ∧ SR K Γ ρ2 μ2 H ∧ ER K ρ2 H σ δ2 ∧ PostS K Γ E ρ2 H (forL set G s.chk (s.items.drop (i + 1)) δ2 μ2) T, fun σ' H' h => ⟨s.items.length - (i + 1), by omega, rfl, hlt, h⟩, fun x H3 y => ?_⟩
      obtain ⟨x3, S3, r3⟩ := hy x H3 y
      cases h1 : set d δ2 with
      | none => simp only [h1] at hp2; exact hp2.elim
      | some δ3 =>
        simp only [h1] at hp2
        refine hg ρ2 H3 σ2 δ2 δ3 x d _ (e2.ext x3) r3 h1 fun σ3 e3 _ => ?_
        refine hb ρ2 μ2 δ3 σ3 H3 S3 e3 _ ?_
        cases h2 : G δ3 μ2 with
        | nx δ4 μ4 =>
          simp only [h2] at hp2
          exact fun σ' ρ' H' x s r => ⟨ρ', μ4, δ4, (x2.trans x3).trans x, s, r, (hp2.weak x3).weak x⟩
        | ct δ4 μ4 =>
          simp only [h2] at hp2
          exact fun σ' ρ' H' x s r => ⟨ρ', μ4, δ4, (x2.trans x3).trans x, s, r, (hp2.weak x3).weak x⟩
        | bk δ4 μ4 =>
          simp only [h2] at hp2
          exact fun σ' ρ' H' x s r => hp2 σ' ρ' H' (x3.trans x) s r
        | rt d μ4 =>
          simp only [h2] at hp2
          exact fun v ρ' H' x s r => hp2 v ρ' H' (x3.trans x) s r
        | ex y μ4 =>
          simp only [h2] at hp2
          exact fun ρ' H' C od x s g d => hp2 ρ' H' C od (x3.trans x) s g d
        | stuck => simp only [h2] at hp2; exact hp2.elim
    · simp only [if_neg hc] at hp2; exact hp2.elim
  · have ei : i = s.items.length := by omega
    subst ei
    rw [List.drop_length] at hp2
    unfold forL at hp2
    by_cases hc : s.chk μ2 = true
    · simp only [if_pos hc] at hp2
      exact .inl ⟨hr.stop ρ2 μ2 H2 x2.up hf S2 hc, hp2 σ2 ρ2 H2 Ext.refl S2 e2⟩
    · simp only [if_neg hc] at hp2; exact hp2.elim

/-! ### while: so many turns at most -/
def whileG (c : BG) (body : SG) : Nat → SG
  | 0, _, _ => .stuck
  | n + 1, δ, μ => match c δ μ with
    | .ok b μ1 => if b = true then
        match body δ μ1 with
        | .nx δ2 μ2 => whileG c body n δ2 μ2
        | .ct δ2 μ2 => whileG c body n δ2 μ2
        | .bk δ2 μ2 => .nx δ2 μ2
        | r => r
      else .nx δ μ1
    | .ex x μ1 => .ex x μ1
    | .stuck => .stuck
theorem ss_while (n : Nat) {tt : TT} {B : BG} {tb : TS} (hc : SimT K Γ E tt B) (hb : SimS K Γ E tb G) : SimS K Γ E (tWhile tt tb) (whileG B G n) := fun ρ μ δ σ H S e T hp => by
  refine ⟨fun m σ2 H2 => ∃ ρ2 μ2 δ2, SR K Γ ρ2 μ2 H2 ∧ ER K ρ2 H2 σ2 δ2 ∧ PostS K Γ E ρ2 H2 (whileG B G m δ2 μ2) T, ⟨n, ρ, μ, δ, S, e, hp⟩, ?_⟩
  rintro m σ2 H2 ⟨ρ2, μ2, δ2, S2, e2, hp2⟩
  cases m with
  | zero => exact hp2.elim
  | succ m =>
    unfold whileG at hp2
    refine hc ρ2 μ2 δ2 σ2 H2 S2 e2 _ ?_
    cases h : B δ2 μ2 with
    | ex x μ3 => rw [h] at hp2; exact hp2
    | stuck => rw [h] at hp2; exact hp2.elim
    | ok b μ3 =>
      rw [h] at hp2
      intro b' ρ3 H3 x3 S3 eb
      cases eb
      cases b with
      | false =>
        simp only [Bool.false_eq_true, if_false] at hp2 ⊢
        exact hp2 σ2 ρ3 H3 x3 S3 (e2.ext x3)
      | true =>
        simp only [if_true] at hp2 ⊢
        refine ⟨fun σ4 H4 => ∃ ρ4 μ4 δ4, SR K Γ ρ4 μ4 H4 ∧ ER K ρ4 H4 σ4 δ4 ∧ PostS K Γ E ρ4 H4 (whileG B G m δ4 μ4) T, fun σ' H' h => ⟨m, Nat.lt_succ_self _, h⟩, ?_⟩
        refine hb ρ3 μ3 δ2 σ2 H3 S3 (e2.ext x3) _ ?_
        cases h2 : G δ2 μ3 with
        | nx δ4 μ4 =>
          simp only [h2] at hp2
          exact fun σ' ρ' H' x s r => ⟨ρ', μ4, δ4, s, r, (hp2.weak x3).weak x⟩
        | ct δ4 μ4 =>
          simp only [h2] at hp2
          exact fun σ' ρ' H' x s r => ⟨ρ', μ4, δ4, s, r, (hp2.weak x3).weak x⟩
        | bk δ4 μ4 =>
          simp only [h2] at hp2
          exact fun σ' ρ' H' x s r => hp2 σ' ρ' H' (x3.trans x) s r
        | rt d μ4 =>
          simp only [h2] at hp2
          exact fun v ρ' H' x s r => hp2 v ρ' H' (x3.trans x) s r
        | ex y μ4 =>
          simp only [h2] at hp2
          exact fun ρ' H' C od x s g d => hp2 ρ' H' C od (x3.trans x) s g d
        | stuck => simp only [h2] at hp2; exact hp2.elim

/-! ### defs -/
abbrev Fn := List D → Mn D
/-- what a def's body gives -/
def outR (r : Ss) : Rs D := match r with
  | .nx _ μ => .ok .non μ
  | .rt d μ => .ok d μ
  | .ex x μ => .ex x μ
  | _ => .stuck
/-- a def by its body: n names in all -/
def fnG (n : Nat) (body : SG) : Fn := fun ds μ => outR (body (ds.map some ++ List.replicate (n - ds.length) none) μ)
/-- a def's promise: it does what F says -/
def spS (K : PySem.W.Frag) (Γ : Clss) (k : Nat) (F : Fn) : Sp := fun vs H Q E => vs.length = k ∧ ∃ (ρ : List Addr) (μ : Store) (ds : List D), SR K Γ ρ μ H ∧ RVs K ρ H vs ds ∧ Post K Γ E (RV K) ρ H (F ds μ) Q
theorem er_start : ∀ {vs : List V} {ds : List D} {N : Nat}, RVs K ρ H vs ds → ER K ρ H (vs.map some ++ List.replicate N none) (ds.map some ++ List.replicate N none) := fun {vs ds N} r => by
  refine ⟨by simp [r.length], fun i d h => ?_⟩
  by_cases hi : i < ds.length
  · rw [List.getElem?_append_left (by simpa using hi), List.getElem?_map] at h
    obtain ⟨c, h1, h2⟩ := Option.map_eq_some_iff.mp h
    cases h2
    obtain ⟨v, h3, h4⟩ := r.getD h1
    exact ⟨v, by rw [List.getElem?_append_left (by simp [r.length]; exact hi), List.getElem?_map, h3]; rfl, h4⟩
  · rw [List.getElem?_append_right (by simpa using Nat.le_of_not_lt hi), List.getElem?_replicate] at h
    split at h <;> cases h
theorem body_ok {vs : List V} {ds : List D} {N : List Str} {Q : VK} {t : TS} (S : SR K Γ ρ μ H) (r : RVs K ρ H vs ds) (hN : SimS K Γ E t G) (hp : Post K Γ E (RV K) ρ H (fnG N.length G ds μ) Q) :
    t { nx := fun _ H' => Q .non H', rt := Q } (L2.start N vs) H := by
  unfold L2.start
  rw [r.length]
  refine hN ρ μ _ _ H S (er_start r) _ ?_
  unfold fnG outR at hp
  generalize G (ds.map some ++ List.replicate (N.length - ds.length) none) μ = g at hp
  cases g with
  | nx δ' μ' => exact fun σ' ρ' H' x s r => hp .non ρ' H' x s .non
  | rt d μ' => exact hp
  | bk _ _ => exact hp.elim
  | ct _ _ => exact hp.elim
  | ex y μ' => exact hp
  | stuck => exact hp.elim
def callG (F : Fn) (a : AG) : EG := fun δ => bnd (a δ) F
theorem SimA.call {k : Nat} {F : Fn} {t : TA} (ha : SimA K Γ E t La) (hk : ∀ δ μ ds μ', La δ μ = .ok ds μ' → ds.length = k) : SimE K Γ E (tCall (spS K Γ k F) [] E t) (callG F La) := fun ρ μ δ σ H S e Q hp => by
  unfold callG bnd at hp
  refine ha ρ μ δ σ H S e _ ?_
  cases h : La δ μ with
  | ex y μ' => rw [h] at hp; exact hp
  | stuck => rw [h] at hp; exact hp.elim
  | ok ds μ' =>
    rw [h] at hp
    intro vs ρ' H' x s r
    rw [List.append_nil]
    exact ⟨r.length.trans (hk δ μ ds μ' h), ρ', μ', ds, s, r, hp.weak x⟩
theorem nil_len (δ : Dn) (μ : Store) (ds : List D) (μ' : Store) (h : nilG δ μ = .ok ds μ') : ds.length = 0 := by cases h; rfl
theorem cons_len {a : EG} {b : AG} {k : Nat} (hb : ∀ δ μ ds μ', b δ μ = .ok ds μ' → ds.length = k) (δ : Dn) (μ : Store) (ds : List D) (μ' : Store) (h : consG a b δ μ = .ok ds μ') : ds.length = k + 1 := by
  unfold consG bnd at h
  cases h1 : a δ μ with
  | ex _ _ => rw [h1] at h; cases h
  | stuck => rw [h1] at h; cases h
  | ok d μ1 =>
    rw [h1] at h
    simp only at h
    cases h2 : b δ μ1 with
    | ex _ _ => rw [h2] at h; cases h
    | stuck => rw [h2] at h; cases h
    | ok es μ2 =>
      rw [h2] at h
      cases h
      simp [hb δ μ1 es μ' h2]
end
end Sim

set_option autoImplicit false
/-! Sim, part 6: built-ins, subscripts, slices, methods, dicts. -/
namespace Sim
open PySem L2

section
variable {K : PySem.W.Frag} {Γ : Clss} {E : XK} {ρ ρ1 ρ2 ρ' : List Addr} {H H1 H2 H' : Hp} {μ μ1 : Store} {σ : L2.St} {δ : Dn}
variable {ta tb tc te : TE} {Fa Fb Fc : EG} {La Lb : AG} {X : Cx} {tA : TA}

/-! ### isinstance -/
def kindD (d : D) (μ : Store) : Option String := match d with
  | .non => some "NoneType"
  | .bl _ => some "bool"
  | .int _ => some "int"
  | .str _ => some "str"
  | .tup _ => some "tuple"
  | .fz _ => some "list"
  | .loc n => match μ[n]? with
    | some (.lst _) => some "list"
    | some (.dk _) => some "dict"
    | _ => none
  | _ => none
theorem RV.kind {v : V} {d : D} {k : String} (S : SR K Γ ρ μ H) (r : RV K ρ H v d) (h : kindD d μ = some k) : TyX K H v (.type k) := by
  cases r with
  | non => cases h; exact .base .non
  | bl b => cases h; exact .base (.bl b)
  | int b => cases h; exact .base (.int b)
  | str b => cases h; exact .base (.str b)
  | tup q _ _ =>
    cases h
    rcases q with (q | ⟨o, q⟩) | ⟨o, its, n, q, c, _⟩
    · exact .base (.tup q)
    · exact .fTuple q
    · exact .kTuple q c
  | fz q _ _ =>
    cases h
    rcases q with ⟨o, q⟩ | ⟨o, its, n, q, c, _⟩
    · exact .base (.frz q)
    · exact .kList q c
  | loc hn =>
    obtain ⟨o, ho, x⟩ := S.ob hn
    unfold kindD at h
    simp only [ho] at h
    cases x with
    | lst e _ _ => cases h; exact .base (.lst e)
    | dk e _ => cases h; exact .base (.dK e)
    | ins _ _ _ => cases h
  | ty _ => cases h
  | adr _ => cases h
/-- the kinds that are asked for -/
def kinds : List String := ["NoneType", "bool", "int", "str", "tuple", "list", "dict"]
def isiTab (k T : String) : Option Bool := if T ∈ kinds ∧ k ∈ kinds then some (k == T || (k == "bool" && T == "int")) else none
theorem isi_ok : (kinds.all fun k => kinds.all fun T => kitB k T == some (k == T || (k == "bool" && T == "int"))) = true := by decide +kernel
theorem isiTab_ok {k T : String} {b : Bool} (h : isiTab k T = some b) : PySem.W.kitOne K (.type k) (.type T) = some b := by
  unfold isiTab at h
  by_cases hk : T ∈ kinds ∧ k ∈ kinds
  · rw [if_pos hk] at h
    have h1 := List.all_eq_true.mp isi_ok k hk.2
    have h2 := List.all_eq_true.mp h1 T hk.1
    exact kit_ty ((beq_iff_eq.mp h2).trans h)
  · rw [if_neg hk] at h; cases h
def isiC (ds : List D) : Mn D := fun μ => match ds with
  | [d, .ty T] => match kindD d μ with
    | some k => match isiTab k T with
      | some b => .ok (.bl b) μ
      | none => .stuck
    | none => .stuck
  | _ => .stuck
theorem c_isi : CaS K Γ E (rIsi K) isiC := by
  intro ρ μ H vs ds Q S r hp
  cases r with
  | nil => exact hp.elim
  | @cons v vs d ds r1 rs => cases rs with
    | nil => exact hp.elim
    | @cons w ws c cs r2 rs => cases rs with
      | cons _ _ => cases r2 <;> exact hp.elim
      | nil => cases r2 with
        | ty T =>
          unfold isiC at hp
          cases h1 : kindD d μ with
          | none => simp only [h1] at hp; exact hp.elim
          | some k => cases h2 : isiTab k T with
            | none => simp only [h1, h2] at hp; exact hp.elim
            | some b =>
              simp only [h1, h2] at hp
              exact ⟨v, .ty T, .type k, .type T, b, rfl, .ty T, r1.kind S h1, isiTab_ok h2, hp _ ρ H Ext.refl S (.bl b)⟩
        | _ => exact hp.elim

/-! ### numbers -/
theorem cas1 {r : List V → Hp → VK → Prop} {g : D → Mn D} (h : ∀ (ρ : List Addr) (μ : Store) (H : Hp) (v : V) (d : D) (Q : VK), SR K Γ ρ μ H → RV K ρ H v d → Post K Γ E (RV K) ρ H (g d μ) Q → r [v] H Q) :
    CaS K Γ E r (fun ds => match ds with | [d] => g d | _ => stk) := by
  intro ρ μ H vs ds Q S r hp
  cases r with
  | nil => exact hp.elim
  | cons r1 rs => cases rs with
    | nil => exact h ρ μ H _ _ Q S r1 hp
    | cons _ _ => exact hp.elim
def c1 (g : D → Mn D) : List D → Mn D := fun ds => match ds with
  | [d] => g d
  | _ => stk
def absD (d : D) : Mn D := match d with
  | .int i => ret (.int (if i < 0 then -i else i))
  | _ => stk
theorem c_abs : CaS K Γ E (fun xs H Q => ∃ i, xs = [.int i] ∧ Q (.int (if i < 0 then -i else i)) H) (c1 absD) := cas1 fun ρ μ H v d Q S r hp => by
  cases r with
  | int i => exact ⟨i, rfl, hp _ ρ H Ext.refl S (.int _)⟩
  | _ => exact hp.elim
def intC (d : D) : Mn D := match d with
  | .int i => ret (.int i)
  | .bl k => ret (.int (if k then 1 else 0))
  | _ => stk
theorem c_int : CaS K Γ E (fun xs H Q => (∃ i, xs = [.int i] ∧ Q (.int i) H) ∨ ∃ k, xs = [.bl k] ∧ Q (.int (if k then 1 else 0)) H) (c1 intC) := cas1 fun ρ μ H v d Q S r hp => by
  cases r with
  | int i => exact .inl ⟨i, rfl, hp _ ρ H Ext.refl S (.int _)⟩
  | bl k => exact .inr ⟨k, rfl, hp _ ρ H Ext.refl S (.int _)⟩
  | _ => exact hp.elim
def lenD (d : D) : Mn D := fun μ => match seqOf d μ with
  | some (_, es) => .ok (.int es.length) μ
  | none => .stuck
theorem c_len : CaS K Γ E (fun xs H Q => ∃ p ys, xs = [.ref p] ∧ (SqL K H p ys ∨ SqT K H p ys) ∧ Q (.int ys.length) H) (c1 lenD) := cas1 fun ρ μ H v d Q S r hp => by
  unfold lenD at hp
  cases h : seqOf d μ with
  | none => rw [h] at hp; exact hp.elim
  | some p =>
    obtain ⟨t, es⟩ := p
    rw [h] at hp
    obtain ⟨a, xs, rfl, hl, rr, hk⟩ := r.seq S h
    refine ⟨a, xs, rfl, ?_, hp _ ρ H Ext.refl S (by rw [rr.length]; exact .int _)⟩
    rcases hk with ⟨_, hk⟩ | ⟨_, hk⟩
    · exact .inr hk
    · exact .inl hk

/-! ### a call of a new list -/
/-- r, of a list at a known place: what g makes of its items -/
def CaL (K : PySem.W.Frag) (Γ : Clss) (E : XK) (r : List V → Hp → VK → Prop) (g : List D → Mn D) : Prop :=
  ∀ (ρ : List Addr) (μ : Store) (H : Hp) (p : Addr) (xs : List V) (ds : List D) (Q : VK), SR K Γ ρ μ H → SqL K H p xs → xs.length ≤ sizeLine → RVs K ρ H xs ds → Post K Γ E (RV K) ρ H (g ds μ) Q → r [.ref p] H Q
def cLG (g : List D → Mn D) (a : AG) : EG := fun δ => bnd (a δ) g
theorem sim_cL {r : List V → Hp → VK → Prop} {g : List D → Mn D} (hr : CaL K Γ E r g) (ha : SimL K Γ E ta La) : SimE K Γ E (tCB r (tCons ta tNil)) (cLG g La) := fun ρ μ δ σ H S e Q hp => by
  refine ha.go S e hp fun v d ρ1 μ1 H1 x1 S1 r1 hp1 => ?_
  obtain ⟨p, xs, rfl, h0, hn, hl, hz, rr⟩ := r1
  exact hr ρ1 μ1 H1 p xs d Q S1 (SqL.of hl) hz rr hp1
/-- the items of a list that is a value -/
def itemsL (d : D) : Mn (List D) := fun μ => match seqOf d μ with
  | some (false, es) => .ok es μ
  | _ => .stuck
def cVG (g : List D → Mn D) (a : EG) : EG := fun δ => bnd (a δ) fun d => bnd (itemsL d) g
theorem sim_cV {r : List V → Hp → VK → Prop} {g : List D → Mn D} (hr : CaL K Γ E r g) (ha : SimE K Γ E ta Fa) : SimE K Γ E (tCB r (tCons ta tNil)) (cVG g Fa) := fun ρ μ δ σ H S e Q hp => by
  refine ha.go S e hp fun v d ρ1 μ1 H1 x1 S1 r1 hp1 => ?_
  unfold bnd itemsL at hp1
  cases h : seqOf d μ1 with
  | none => simp only [h] at hp1; exact hp1.elim
  | some p =>
    obtain ⟨t, es⟩ := p
    obtain ⟨a, xs, rfl, hl, rr, hk⟩ := r1.seq S1 h
    cases t with
    | true => simp only [h] at hp1; exact hp1.elim
    | false =>
      simp only [h] at hp1
      rcases hk with ⟨z, _⟩ | ⟨_, hk⟩
      · cases z
      · exact hr ρ1 μ1 H1 a xs es Q S1 hk hl rr hp1
def unBls : List D → Option (List Bool)
  | [] => some []
  | .bl i :: ds => (unBls ds).map (i :: ·)
  | _ :: _ => none
theorem unBls_some : ∀ {ds : List D} {is : List Bool}, unBls ds = some is → ds = is.map D.bl
  | [], is, h => by cases h; rfl
  | .bl i :: ds, is, h => by
    simp only [unBls, Option.map_eq_some_iff] at h
    obtain ⟨js, h1, h2⟩ := h
    subst h2
    rw [unBls_some h1]; rfl
  | .non :: _, _, h => nomatch h
  | .int _ :: _, _, h => nomatch h
  | .str _ :: _, _, h => nomatch h
  | .tup _ :: _, _, h => nomatch h
  | .loc _ :: _, _, h => nomatch h
  | .fz _ :: _, _, h => nomatch h
  | .ty _ :: _, _, h => nomatch h
  | .adr _ :: _, _, h => nomatch h
@[simp] theorem unBls_map : ∀ is : List Bool, unBls (is.map D.bl) = some is
  | [] => rfl
  | i :: is => by simp [unBls, unBls_map is]
def allC (ds : List D) : Mn D := match unBls ds with
  | some bs => ret (.bl (bs.all id))
  | none => stk
def anyC (ds : List D) : Mn D := match unBls ds with
  | some bs => ret (.bl (bs.any id))
  | none => stk
def sumC (ds : List D) : Mn D := match unInts ds with
  | some bs => ret (.int bs.sum)
  | none => stk
theorem l_all : CaL K Γ E (rAll K) allC := fun ρ μ H p xs ds Q S hx hl r hp => by
  unfold allC at hp
  cases h : unBls ds with
  | none => simp only [h] at hp; exact hp.elim
  | some bs =>
    simp only [h] at hp
    have e := unBls_some h
    subst e
    exact ⟨p, bs, rfl, by rw [← r.bls]; exact hx, hp _ ρ H Ext.refl S (.bl _)⟩
theorem l_any : CaL K Γ E (rAny K) anyC := fun ρ μ H p xs ds Q S hx hl r hp => by
  unfold anyC at hp
  cases h : unBls ds with
  | none => simp only [h] at hp; exact hp.elim
  | some bs =>
    simp only [h] at hp
    have e := unBls_some h
    subst e
    exact ⟨p, bs, rfl, by rw [← r.bls]; exact hx, hp _ ρ H Ext.refl S (.bl _)⟩
theorem l_sum : CaL K Γ E (rSum K) sumC := fun ρ μ H p xs ds Q S hx hl r hp => by
  unfold sumC at hp
  cases h : unInts ds with
  | none => simp only [h] at hp; exact hp.elim
  | some bs =>
    simp only [h] at hp
    have e := unInts_some h
    subst e
    exact ⟨p, bs, rfl, by rw [← r.ints]; exact hx, hp _ ρ H Ext.refl S (.int _)⟩
def lenC (ds : List D) : Mn D := ret (.int ds.length)
theorem l_len : CaL K Γ E (fun xs H Q => ∃ p ys, xs = [.ref p] ∧ (SqL K H p ys ∨ SqT K H p ys) ∧ Q (.int ys.length) H) lenC := fun ρ μ H p xs ds Q S hx hl r hp =>
  ⟨p, xs, rfl, .inl hx, hp _ ρ H Ext.refl S (by rw [r.length]; exact .int _)⟩
/-- tuple(a list) -/
def tupC (ds : List D) : Mn D := ret (.tup ds)
abbrev rTupOf (K : PySem.W.Frag) : List V → Hp → VK → Prop := fun xs H Q => ∃ p ys, xs = [.ref p] ∧ ((SqL K H p ys ∧ ∀ l, H l = none → Q (.ref l) (upd H l (.tup ys))) ∨ (SqT K H p ys ∧ Q (.ref p) H))
theorem l_tup : CaL K Γ E (rTupOf K) tupC := fun ρ μ H p xs ds Q S hx hl r hp =>
  ⟨p, xs, rfl, .inl ⟨hx, fun l hn => hp _ ρ _ (Ext.new hn) (S.new hn) (.tup (.inl (.inl upd_same)) hl (r.ext (Ext.new hn)))⟩⟩
/-- list(a list or a tuple): a new list -/
abbrev rLstOf (K : PySem.W.Frag) : List V → Hp → VK → Prop := fun xs H Q => ∃ p ys, xs = [.ref p] ∧ (SqL K H p ys ∨ SqT K H p ys) ∧ ∀ l, H l = none → Q (.ref l) (upd H l (.lst ys))
def lstOfG (a : EG) : AG := fun δ => bnd (a δ) fun d μ => match seqOf d μ with
  | some (_, es) => .ok es μ
  | none => .stuck
theorem sim_lstOf (ha : SimE K Γ E ta Fa) : SimL K Γ E (tCB (rLstOf K) (tCons ta tNil)) (lstOfG Fa) := fun ρ μ δ σ H S e Q hp => by
  refine ha.go S e hp fun v d ρ1 μ1 H1 x1 S1 r1 hp1 => ?_
  cases h : seqOf d μ1 with
  | none => simp only [h] at hp1; exact hp1.elim
  | some p =>
    obtain ⟨t, es⟩ := p
    obtain ⟨a, xs, rfl, hl, rr, hk⟩ := r1.seq S1 h
    simp only [h] at hp1
    refine ⟨a, xs, rfl, ?_, fun l hn => hp1 _ ρ1 _ (Ext.new hn) (S1.new hn) ⟨l, xs, rfl, x1.there l hn, S1.fresh hn, upd_same, hl, rr.ext (Ext.new hn)⟩⟩
    rcases hk with ⟨_, hk⟩ | ⟨_, hk⟩
    · exact .inr hk
    · exact .inl hk
/-- sorted(ints) -/
def insB {α : Type} (le : α → α → Bool) (a : α) : List α → List α
  | [] => [a]
  | b :: l => if le a b = true then a :: b :: l else b :: insB le a l
def isort {α : Type} (le : α → α → Bool) : List α → List α
  | [] => []
  | a :: l => insB le a (isort le l)
section
variable {α : Type} {le : α → α → Bool}
theorem insB_perm (a : α) : ∀ l : List α, (insB le a l).Perm (a :: l)
  | [] => .refl _
  | b :: l => by
    unfold insB
    split
    · exact .refl _
    · exact ((insB_perm a l).cons b).trans (List.Perm.swap a b l)
theorem isort_perm : ∀ l : List α, (isort le l).Perm l
  | [] => .refl _
  | a :: l => (insB_perm a _).trans ((isort_perm l).cons a)
theorem insB_sorted (ht : ∀ a b c, le a b = true → le b c = true → le a c = true) (hl : ∀ a b, le a b = true ∨ le b a = true) (a : α) : ∀ l : List α, l.Pairwise (fun x y => le x y = true) → (insB le a l).Pairwise fun x y => le x y = true
  | [], _ => List.pairwise_singleton _ _
  | b :: l, h => by
    obtain ⟨h1, h2⟩ := List.pairwise_cons.mp h
    unfold insB
    by_cases c : le a b = true
    · rw [if_pos c]
      refine List.pairwise_cons.mpr ⟨fun x hx => ?_, h⟩
      rcases List.mem_cons.mp hx with rfl | hx
      · exact c
      · exact ht a b x c (h1 x hx)
    · rw [if_neg c]
      refine List.pairwise_cons.mpr ⟨fun x hx => ?_, insB_sorted ht hl a l h2⟩
      rcases List.mem_cons.mp ((insB_perm a l).mem_iff.mp hx) with rfl | hx
      · exact (hl b x).resolve_right c
      · exact h1 x hx
theorem isort_sorted (ht : ∀ a b c, le a b = true → le b c = true → le a c = true) (hl : ∀ a b, le a b = true ∨ le b a = true) : ∀ l : List α, (isort le l).Pairwise fun x y => le x y = true
  | [] => List.Pairwise.nil
  | a :: l => insB_sorted ht hl a _ (isort_sorted ht hl l)
end
def sortI (is : List Int) : List Int := isort (fun a b => decide (a ≤ b)) is
theorem sortI_perm (is : List Int) : (sortI is).Perm is := isort_perm is
theorem sortI_sorted (is : List Int) : (sortI is).Pairwise (· ≤ ·) :=
  (isort_sorted (le := fun a b : Int => decide (a ≤ b)) (fun a b c h1 h2 => by simp at *; omega) (fun a b => by simp; omega) is).imp fun {a b} h => by simpa using h
theorem sorted_one : ∀ {l m : List Int}, l.Perm m → l.Pairwise (· ≤ ·) → m.Pairwise (· ≤ ·) → l = m := fun h h1 h2 => h.eq_of_pairwise (fun a b _ _ x y => Int.le_antisymm x y) h1 h2
theorem sorted_is {l is : List Int} (h : l.Perm is) (h1 : l.Pairwise (· ≤ ·)) : l = sortI is := sorted_one (h.trans (sortI_perm is).symm) h1 (sortI_sorted is)
/-- what gives a new list -/
def CaLL (K : PySem.W.Frag) (Γ : Clss) (E : XK) (r : List V → Hp → VK → Prop) (g : List D → Mn (List D)) : Prop :=
  ∀ (H₀ : Hp) (ρ₀ ρ : List Addr) (μ : Store) (H : Hp) (p : Addr) (xs : List V) (ds : List D) (Q : VK), Ext ρ₀ H₀ ρ H → SR K Γ ρ μ H → SqL K H p xs → xs.length ≤ sizeLine → RVs K ρ H xs ds → Post K Γ E (RelL K H₀) ρ H (g ds μ) Q → r [.ref p] H Q
def cLLG (g : List D → Mn (List D)) (a : AG) : AG := fun δ => bnd (a δ) g
theorem sim_cLL {r : List V → Hp → VK → Prop} {g : List D → Mn (List D)} (hr : CaLL K Γ E r g) (ha : SimL K Γ E ta La) : SimL K Γ E (tCB r (tCons ta tNil)) (cLLG g La) := fun ρ μ δ σ H S e Q hp => by
  refine ha.go S e hp fun v d ρ1 μ1 H1 x1 S1 r1 hp1 => ?_
  obtain ⟨p, xs, rfl, h0, hn, hl, hz, rr⟩ := r1
  exact hr H ρ ρ1 μ1 H1 p xs d Q x1 S1 (SqL.of hl) hz rr hp1
def cVLG (g : List D → Mn (List D)) (a : EG) : AG := fun δ => bnd (a δ) fun d => bnd (itemsL d) g
theorem sim_cVL {r : List V → Hp → VK → Prop} {g : List D → Mn (List D)} (hr : CaLL K Γ E r g) (ha : SimE K Γ E ta Fa) : SimL K Γ E (tCB r (tCons ta tNil)) (cVLG g Fa) := fun ρ μ δ σ H S e Q hp => by
  refine ha.go S e hp fun v d ρ1 μ1 H1 x1 S1 r1 hp1 => ?_
  unfold bnd itemsL at hp1
  cases h : seqOf d μ1 with
  | none => simp only [h] at hp1; exact hp1.elim
  | some p =>
    obtain ⟨t, es⟩ := p
    obtain ⟨a, xs, rfl, hl, rr, hk⟩ := r1.seq S1 h
    cases t with
    | true => simp only [h] at hp1; exact hp1.elim
    | false =>
      simp only [h] at hp1
      rcases hk with ⟨z, _⟩ | ⟨_, hk⟩
      · cases z
      · exact hr H ρ ρ1 μ1 H1 a xs es Q x1 S1 hk hl rr hp1
def sortIC (ds : List D) : Mn (List D) := match unInts ds with
  | some is => ret ((sortI is).map D.int)
  | none => stk
theorem l_sortI : CaLL K Γ E (rSortedI K) sortIC := fun H₀ ρ₀ ρ μ H p xs ds Q x S hx hl r hp => by
  unfold sortIC at hp
  cases h : unInts ds with
  | none => simp only [h] at hp; exact hp.elim
  | some is =>
    simp only [h] at hp
    have e := unInts_some h
    subst e
    have hlen := r.length
    refine ⟨p, is, rfl, by rw [← r.ints]; exact hx, fun ns' l pm so hn => ?_⟩
    have e := sorted_is pm so
    subst e
    exact hp _ ρ _ (Ext.new hn) (S.new hn) ⟨l, _, rfl, x.there l hn, S.fresh hn, upd_same, by rw [List.length_map, pm.length_eq, ← List.length_map (f := D.int), ← hlen]; exact hl, RVs.ofInts _⟩

/-! ### subscripts -/
def ixD (d i : D) : Mn D := fun μ => match i with
  | .int k => match seqOf d μ with
    | some (_, es) => match atI es k with
      | some c => .ok c μ
      | none => .stuck
    | none => .stuck
  | _ => .stuck
theorem atI_rv {xs : List V} {ds : List D} {k : Int} {c : D} (r : RVs K ρ H xs ds) (h : atI ds k = some c) : ∃ v, atI xs k = some v ∧ RV K ρ H v c := by
  unfold atI at h ⊢
  rw [r.length]
  obtain ⟨j, h1, h2⟩ := Option.bind_eq_some_iff.mp h
  obtain ⟨v, h3, h4⟩ := r.getD h2
  exact ⟨v, by rw [h1]; exact h3, h4⟩
def rIxA (K : PySem.W.Frag) : R2 := fun x y H Q => rIxL K x y H Q ∨ rIxT K x y H Q
theorem ix_any : IxR X (rIxA X.K) := ix_list.or ix_tup
theorem s_ix : OpS K Γ E (rIxA K) ixD := by
  intro ρ μ H v w d e Q S r1 r2 hp
  cases r2 with
  | int k =>
    unfold ixD at hp
    cases h : seqOf d μ with
    | none => simp only [h] at hp; exact hp.elim
    | some p =>
      obtain ⟨t, es⟩ := p
      obtain ⟨a, xs, rfl, hl, rr, hk⟩ := r1.seq S h
      cases h2 : atI es k with
      | none => simp only [h, h2] at hp; exact hp.elim
      | some c =>
        simp only [h, h2] at hp
        obtain ⟨u, h3, h4⟩ := atI_rv rr h2
        have q := hp u ρ H Ext.refl S h4
        rcases hk with ⟨_, hk⟩ | ⟨_, hk⟩
        · exact .inr ⟨a, xs, k, u, rfl, rfl, hk, h3, q⟩
        · exact .inl ⟨a, xs, k, u, rfl, rfl, hk, h3, q⟩
  | _ => exact hp.elim
/-! ### slices -/
def cutD {α : Type} (xs : List α) (lo hi : Option Int) : List α := (xs.drop (HT.sIx xs.length 0 lo)).take (HT.sIx xs.length xs.length hi - HT.sIx xs.length 0 lo)
theorem RVs.cut {xs : List V} {ds : List D} (r : RVs K ρ H xs ds) (lo hi : Option Int) : RVs K ρ H (cutV xs lo hi) (cutD ds lo hi) := by
  unfold cutV cutD
  rw [r.length]
  exact (r.drop _).take _
def partG (a : EG) : Dn → Mn (Option Int) := fun δ => bnd (a δ) fun d => match d with
  | .int i => ret (some i)
  | _ => stk
def noPartG : Dn → Mn (Option Int) := fun _ => ret none
theorem so_none : SimO K Γ E tNoPart noPartG := fun ρ μ δ σ H S e Q hp => hp none ρ H Ext.refl S rfl
theorem so_some (ha : SimE K Γ E ta Fa) : SimO K Γ E (tPart ta) (partG Fa) := fun ρ μ δ σ H S e Q hp => by
  refine ha.go S e hp fun v d ρ1 μ1 H1 x1 S1 r1 hp1 => ?_
  cases r1 with
  | int i => exact ⟨i, rfl, hp1 (some i) ρ1 H1 Ext.refl S1 rfl⟩
  | _ => exact hp1.elim
def slTG (a : EG) (lo hi : Dn → Mn (Option Int)) : EG := fun δ => bnd (a δ) fun d => bnd (lo δ) fun i => bnd (hi δ) fun j => match d with
  | .tup ds => ret (.tup (cutD ds i j))
  | _ => stk
theorem sim_slT {tl th : TO} {lo hi : Dn → Mn (Option Int)} (ha : SimE K Γ E ta Fa) (hl : SimO K Γ E tl lo) (hh : SimO K Γ E th hi) : SimE K Γ E (tSl (rSlA K) ta tl th) (slTG Fa lo hi) := fun ρ μ δ σ H S e Q hp => by
  refine ha.go S e hp fun v d ρ1 μ1 H1 x1 S1 r1 hp1 => ?_
  refine hl.go S1 (e.ext x1) hp1 fun i ρ2 μ2 H2 x2 S2 hp2 => ?_
  refine hh.go S2 ((e.ext x1).ext x2) hp2 fun j ρ3 μ3 H3 x3 S3 hp3 => ?_
  have r3 := (r1.ext x2).ext x3
  cases r3 with
  | @tup a xs ds h1 l1 t1 =>
    have hz : (cutV xs i j).length ≤ sizeLine := Nat.le_trans (cutV_length xs i j) l1
    refine ⟨a, xs, rfl, h1, fun hw => ?_, fun _ p hn => ?_⟩
    · refine hp3 _ ρ3 H3 Ext.refl S3 (.tup h1 l1 ?_)
      have hc := t1.cut i j
      have ee : cutV xs i j = xs := by unfold cutV; rw [hw.1, hw.2]; simp
      rw [ee] at hc
      exact hc
    · exact hp3 _ ρ3 _ (Ext.new hn) (S3.new hn) (.tup (.inl (.inl upd_same)) hz ((t1.cut i j).ext (Ext.new hn)))
  | _ => exact hp3.elim
/-- a list's slice: a new list -/
def slLG (a : EG) (lo hi : Dn → Mn (Option Int)) : AG := fun δ => bnd (a δ) fun d => bnd (lo δ) fun i => bnd (hi δ) fun j => bnd (itemsL d) fun ds => ret (cutD ds i j)
theorem sim_slL {tl th : TO} {lo hi : Dn → Mn (Option Int)} (ha : SimE K Γ E ta Fa) (hl : SimO K Γ E tl lo) (hh : SimO K Γ E th hi) : SimL K Γ E (tSl (rSlL K) ta tl th) (slLG Fa lo hi) := fun ρ μ δ σ H S e Q hp => by
  refine ha.go S e hp fun v d ρ1 μ1 H1 x1 S1 r1 hp1 => ?_
  refine hl.go S1 (e.ext x1) hp1 fun i ρ2 μ2 H2 x2 S2 hp2 => ?_
  refine hh.go S2 ((e.ext x1).ext x2) hp2 fun j ρ3 μ3 H3 x3 S3 hp3 => ?_
  have r3 := (r1.ext x2).ext x3
  unfold bnd itemsL at hp3
  cases h : seqOf d μ3 with
  | none => simp only [h] at hp3; exact hp3.elim
  | some p =>
    obtain ⟨t, es⟩ := p
    obtain ⟨a, xs, rfl, hz, rr, hk⟩ := r3.seq S3 h
    cases t with
    | true => simp only [h] at hp3; exact hp3.elim
    | false =>
      simp only [h] at hp3
      rcases hk with ⟨z, _⟩ | ⟨_, hk⟩
      · cases z
      · exact ⟨a, xs, rfl, hk, fun p hn => hp3 _ ρ3 _ (Ext.new hn) (S3.new hn) ⟨p, _, rfl, ((x1.trans x2).trans x3).there p hn, S3.fresh hn, upd_same, Nat.le_trans (cutV_length xs i j) hz, (rr.cut i j).ext (Ext.new hn)⟩⟩
/-- a slice of a new list -/
def slNG (a : AG) (lo hi : Dn → Mn (Option Int)) : AG := fun δ => bnd (a δ) fun ds => bnd (lo δ) fun i => bnd (hi δ) fun j => ret (cutD ds i j)
theorem sim_slN {tl th : TO} {lo hi : Dn → Mn (Option Int)} (ha : SimL K Γ E ta La) (hl : SimO K Γ E tl lo) (hh : SimO K Γ E th hi) : SimL K Γ E (tSl (rSlL K) ta tl th) (slNG La lo hi) := fun ρ μ δ σ H S e Q hp => by
  refine ha.go S e hp fun v d ρ1 μ1 H1 x1 S1 r1 hp1 => ?_
  refine hl.go S1 (e.ext x1) hp1 fun i ρ2 μ2 H2 x2 S2 hp2 => ?_
  refine hh.go S2 ((e.ext x1).ext x2) hp2 fun j ρ3 μ3 H3 x3 S3 hp3 => ?_
  obtain ⟨p, xs, rfl, h0, hn, hlp, hz, rr⟩ := r1
  have h3 : H3 p = some (.lst xs) := (x2.trans x3).keep p _ hlp hn trivial
  have rr3 := rr.ext (x2.trans x3)
  exact ⟨p, xs, rfl, SqL.of h3, fun q hq => hp3 _ ρ3 _ (Ext.new hq) (S3.new hq) ⟨q, _, rfl, ((x1.trans x2).trans x3).there q hq, S3.fresh hq, upd_same, Nat.le_trans (cutV_length xs i j) hz, (rr3.cut i j).ext (Ext.new hq)⟩⟩

/-! ### lists joined: a new list -/
/-- an operand: a value, or a new list -/
inductive Opd where
  | val (a : EG)
  | new (a : AG)
def SimQ (K : PySem.W.Frag) (Γ : Clss) (E : XK) (t : TE) : Opd → Prop
  | .val a => SimE K Γ E t a
  | .new a => SimL K Γ E t a
/-- the items of a list of the store -/
def locL (d : D) : Mn (List D) := fun μ => match d with
  | .loc n => match μ[n]? with
    | some (.lst es) => .ok es μ
    | _ => .stuck
  | _ => .stuck
theorem locL_at {v : V} {d : D} {ds : List D} {μ3 : Store} (S : SR K Γ ρ μ H) (r : RV K ρ H v d) (h : locL d μ = .ok ds μ3) : μ3 = μ ∧ ∃ n a xs, d = .loc n ∧ ρ[n]? = some a ∧ v = .ref a ∧ H a = some (.lst xs) ∧ xs.length ≤ sizeLine ∧ RVs K ρ H xs ds := by
  cases r with
  | @loc a n hn =>
    obtain ⟨o, ho, x⟩ := S.ob hn
    unfold locL at h
    simp only [ho] at h
    cases x with
    | @lst xs es e1 l1 r1 => cases h; exact ⟨rfl, n, a, xs, rfl, hn, rfl, e1, l1, r1⟩
    | _ => cases h
  | _ => cases h
theorem locL_noex {d : D} {μ μ3 : Store} {x : Exn} : locL d μ ≠ .ex x μ3 := fun h => by
  unfold locL at h
  split at h
  · split at h <;> cases h
  · cases h
/-- the items of what an operand gave, later on -/
def opdG (o : Opd) {α : Type} (δ : Dn) (k : Mn (List D) → Mn α) : Mn α := match o with
  | .val a => bnd (a δ) fun d => k (locL d)
  | .new a => bnd (a δ) fun ds => k (ret ds)
theorem SimQ.go {α β : Type} {Rl : List Addr → Hp → β → α → Prop} {o : Opd} {k : Mn (List D) → Mn α} {Q : β → Hp → Prop} {P : VK} (h : SimQ K Γ E ta o) (S : SR K Γ ρ μ H) (e : ER K ρ H σ δ) (hp : Post K Γ E Rl ρ H (opdG o δ k μ) Q)
    (hk : ∀ (v : V) (m : Mn (List D)) (ρ1 : List Addr) (μ1 : Store) (H1 : Hp), Ext ρ H ρ1 H1 → SR K Γ ρ1 μ1 H1 → Post K Γ E Rl ρ1 H1 (k m μ1) Q →
      (∀ (ρ2 : List Addr) (μ2 : Store) (H2 : Hp) (ds : List D) (μ3 : Store), Ext ρ1 H1 ρ2 H2 → SR K Γ ρ2 μ2 H2 → m μ2 = .ok ds μ3 → μ3 = μ2 ∧ ∃ a xs, v = .ref a ∧ H2 a = some (.lst xs) ∧ xs.length ≤ sizeLine ∧ RVs K ρ2 H2 xs ds) →
      (∀ (μ2 : Store) (x : Exn) (μ3 : Store), m μ2 ≠ .ex x μ3) → P v H1) : ta σ H P := by
  cases o with
  | val a =>
    have h : SimE K Γ E ta a := h
    refine h.go S e hp fun v d ρ1 μ1 H1 x1 S1 r1 hp1 => hk v (locL d) ρ1 μ1 H1 x1 S1 hp1 (fun ρ2 μ2 H2 ds μ3 x2 S2 hm => ?_) fun μ2 x μ3 => locL_noex
    obtain ⟨e3, n, a, xs, _, _, hv, h1, h2, h3⟩ := locL_at S2 (r1.ext x2) hm
    exact ⟨e3, a, xs, hv, h1, h2, h3⟩
  | new a =>
    have h : SimL K Γ E ta a := h
    refine h.go S e hp fun v d ρ1 μ1 H1 x1 S1 r1 hp1 => hk v (ret d) ρ1 μ1 H1 x1 S1 hp1 (fun ρ2 μ2 H2 ds μ3 x2 S2 hm => ?_) fun μ2 x μ3 hm => nomatch hm
    cases hm
    obtain ⟨p, xs, hv, h0, hn, hlp, hz, rr⟩ := r1
    exact ⟨rfl, p, xs, hv, x2.keep p _ hlp hn trivial, hz, rr.ext x2⟩
theorem bnd_inv {α β γ : Type} {Rl : List Addr → Hp → β → α → Prop} {m : Mn γ} {f : γ → Mn α} {Q : β → Hp → Prop} (hn : ∀ (μ2 : Store) (x : Exn) (μ3 : Store), m μ2 ≠ .ex x μ3) (hp : Post K Γ E Rl ρ H (bnd m f μ) Q) : ∃ a μ', m μ = .ok a μ' ∧ Post K Γ E Rl ρ H (f a μ') Q := by
  unfold bnd at hp
  cases h : m μ with
  | ok a μ' => rw [h] at hp; exact ⟨a, μ', rfl, hp⟩
  | ex x μ' => exact absurd h (hn _ _ _)
  | stuck => rw [h] at hp; exact hp.elim
def catG (a b : Opd) : AG := fun δ => opdG a δ fun ma => opdG b δ fun mb => bnd ma fun xs => bnd mb fun ys => fit (xs.length + ys.length) (ret (xs ++ ys))
theorem sim_cat {a b : Opd} (ha : SimQ K Γ E ta a) (hb : SimQ K Γ E tb b) : SimL K Γ E (tOp rCat ta tb) (catG a b) := fun ρ μ δ σ H S e Q hp => by
  refine ha.go S e hp fun v ma ρ1 μ1 H1 x1 S1 hp1 ka na => ?_
  refine hb.go S1 (e.ext x1) hp1 fun w mb ρ2 μ2 H2 x2 S2 hp2 kb nb => ?_
  obtain ⟨ds, μ3, e1, hp3⟩ := bnd_inv na hp2
  obtain ⟨e3, p, xs, rfl, h1, l1, r1⟩ := ka ρ2 μ2 H2 ds μ3 x2 S2 e1
  subst e3
  obtain ⟨es, μ4, e2, hp4⟩ := bnd_inv nb hp3
  obtain ⟨e4, q, ys, rfl, h2, l2, r2⟩ := kb ρ2 μ3 H2 es μ4 Ext.refl S2 e2
  subst e4
  obtain ⟨hl, hp5⟩ := fitP hp4
  refine ⟨p, q, xs, ys, rfl, rfl, h1, h2, by rw [r1.length, r2.length]; exact hl, fun z hn => ?_⟩
  exact hp5 _ ρ2 _ (Ext.new hn) (S2.new hn) ⟨z, _, rfl, (x1.trans x2).there z hn, S2.fresh hn, upd_same, by rw [List.length_append, r1.length, r2.length]; exact hl, (r1.append r2).ext (Ext.new hn)⟩

/-! ### a list or a tuple against [] or () -/
def nilLG (neg : Bool) (a : Opd) : EG := fun δ => opdG a δ fun m => bnd m fun xs => ret (.bl (if neg then !xs.isEmpty else xs.isEmpty))
theorem RVs.isEmpty {vs : List V} {ds : List D} (r : RVs K ρ H vs ds) : vs.isEmpty = ds.isEmpty := by cases r <;> rfl
theorem sim_nilL {neg : Bool} {a : Opd} (ha : SimQ K Γ E ta a) : SimE K Γ E (tOp (rNil K neg) ta (tLst tNil)) (nilLG neg a) := fun ρ μ δ σ H S e Q hp => by
  refine ha.go S e hp fun v m ρ1 μ1 H1 x1 S1 hp1 ka na => ?_
  refine ⟨Nat.zero_le _, fun p hn => ?_⟩
  have x2 : Ext ρ1 H1 ρ1 (upd H1 p (.lst [])) := Ext.new hn
  obtain ⟨ds, μ3, e1, hp3⟩ := bnd_inv na hp1
  obtain ⟨e3, q, xs, rfl, h1, l1, r1⟩ := ka ρ1 μ1 _ ds μ3 x2 (S1.new hn) e1
  subst e3
  exact ⟨q, p, xs, rfl, rfl, .inl ⟨SqL.of h1, SqL.of upd_same⟩, hp3 _ ρ1 _ x2 (S1.new hn) (by rw [r1.isEmpty]; exact .bl _)⟩
def nilTG (neg : Bool) (a : EG) : EG := fun δ => bnd (a δ) fun d => match d with
  | .tup xs => ret (.bl (if neg then !xs.isEmpty else xs.isEmpty))
  | _ => stk
theorem sim_nilT {neg : Bool} (ha : SimE K Γ E ta Fa) : SimE K Γ E (tOp (rNil K neg) ta (tTup tNil)) (nilTG neg Fa) := fun ρ μ δ σ H S e Q hp => by
  refine ha.go S e hp fun v d ρ1 μ1 H1 x1 S1 r1 hp1 => ?_
  refine ⟨Nat.zero_le _, fun p hn => ?_⟩
  have x2 : Ext ρ1 H1 ρ1 (upd H1 p (.tup [])) := Ext.new hn
  have r2 := r1.ext x2
  cases r2 with
  | @tup a xs ds h1 l1 t1 => exact ⟨a, p, xs, rfl, rfl, .inr ⟨h1, .inl (.inl upd_same)⟩, hp1 _ ρ1 _ x2 (S1.new hn) (by rw [t1.isEmpty]; exact .bl _)⟩
  | _ => exact hp1.elim

/-! ### methods of lists -/
theorem SR.list {n : Nat} {a : Addr} {xs : List V} {ds : List D} (S : SR K Γ ρ μ H) (hn : ρ[n]? = some a) (hl : xs.length ≤ sizeLine) (r : RVs K ρ H xs ds) {u : HO} (hu : H a = some u) (hm : IsMut u) :
    Ext ρ H ρ (upd H a (.lst xs)) ∧ SR K Γ ρ (μ.set n (.lst ds)) (upd H a (.lst xs)) := by
  have x : Ext ρ H ρ (upd H a (.lst xs)) := Ext.write (List.mem_of_getElem? hn) hu hm
  exact ⟨x, S.write hn (.lst upd_same hl (r.ext x))⟩
def appG (a b : EG) : EG := fun δ => bnd (a δ) fun d => bnd (b δ) fun c => bnd (locL d) fun ds μ => match d with
  | .loc n => if ds.length < sizeLine then .ok .non (μ.set n (.lst (ds ++ [c]))) else .stuck
  | _ => .stuck
/-- the object of a method: known to be a list ahead of the arguments -/
def asL (d : D) : Mn D := bnd (locL d) fun _ => ret d
def appMG (a b : EG) : EG := fun δ => bnd (a δ) fun d => bnd (asL d) fun d => bnd (b δ) fun c => bnd (locL d) fun ds μ => match d with
  | .loc n => if ds.length < sizeLine then .ok .non (μ.set n (.lst (ds ++ [c]))) else .stuck
  | _ => .stuck
theorem asL_inv {α β : Type} {Rl : List Addr → Hp → β → α → Prop} {v : V} {d : D} {f : D → Mn α} {Q : β → Hp → Prop} (S : SR K Γ ρ μ H) (r : RV K ρ H v d) (hp : Post K Γ E Rl ρ H (bnd (asL d) f μ) Q) : tyV K "list" v H ∧ Post K Γ E Rl ρ H (f d μ) Q := by
  unfold asL bnd at hp
  cases h : locL d μ with
  | ok ds μ' =>
    obtain ⟨e3, n, a, xs, h0, _, hv, h1, _, _⟩ := locL_at S r h
    subst e3; subst hv
    simp only [h, ret_app] at hp
    exact ⟨.inl ⟨rfl, xs, SqL.of h1⟩, hp⟩
  | ex x μ' => exact absurd h locL_noex
  | stuck => simp only [h] at hp; exact hp.elim
theorem sim_app (ha : SimE K Γ E ta Fa) (hb : SimE K Γ E tb Fb) : SimE K Γ E (tBM K "list" rAppend ta (tCons tb tNil)) (appMG Fa Fb) := fun ρ μ δ σ H S e Q hp => by
  refine ha.go S e hp fun v d ρ1 μ1 H1 x1 S1 r1 hp1 => ?_
  obtain ⟨hty, hp1⟩ := asL_inv S1 r1 hp1
  refine ⟨hty, ?_⟩
  refine hb.go S1 (e.ext x1) hp1 fun w c ρ2 μ2 H2 x2 S2 r2 hp2 => ?_
  obtain ⟨ds, μ3, e1, hp3⟩ := bnd_inv (fun _ _ _ => locL_noex) hp2
  obtain ⟨e3, n, a, xs, h0, hn, hv, h1, l1, rr⟩ := locL_at S2 (r1.ext x2) e1
  subst e3; subst h0; subst hv
  by_cases hz : ds.length < sizeLine
  · simp only [if_pos hz] at hp3
    have hz' : xs.length < sizeLine := by rw [rr.length]; exact hz
    obtain ⟨x3, S3⟩ := S2.list hn (by simp; omega) (rr.snoc r2) h1 trivial
    exact ⟨a, xs, w, rfl, rfl, h1, hz', hp3 .non ρ2 _ x3 S3 .non⟩
  · simp only [if_neg hz] at hp3; exact hp3.elim
/-- xs.extend(ys) -/
def extMG (a : EG) (b : Opd) : EG := fun δ => bnd (a δ) fun d => bnd (asL d) fun d => opdG b δ fun m => bnd (locL d) fun ds => bnd m fun es μ => match d with
  | .loc n => if ds.length + es.length ≤ sizeLine then .ok .non (μ.set n (.lst (ds ++ es))) else .stuck
  | _ => .stuck
theorem sim_extend {b : Opd} (ha : SimE K Γ E ta Fa) (hb : SimQ K Γ E tb b) : SimE K Γ E (tBM K "list" rExtend ta (tCons tb tNil)) (extMG Fa b) := fun ρ μ δ σ H S e Q hp => by
  refine ha.go S e hp fun v d ρ1 μ1 H1 x1 S1 r1 hp1 => ?_
  obtain ⟨hty, hp1⟩ := asL_inv S1 r1 hp1
  refine ⟨hty, ?_⟩
  refine hb.go S1 (e.ext x1) hp1 fun w m ρ2 μ2 H2 x2 S2 hp2 kb nb => ?_
  obtain ⟨ds, μ3, e1, hp3⟩ := bnd_inv (fun _ _ _ => locL_noex) hp2
  obtain ⟨e3, n, a, xs, h0, hn, hv, h1, l1, rr⟩ := locL_at S2 (r1.ext x2) e1
  subst e3; subst h0; subst hv
  obtain ⟨es, μ4, e2, hp4⟩ := bnd_inv nb hp3
  obtain ⟨e4, q, ys, rfl, h2, l2, r2⟩ := kb ρ2 μ3 H2 es μ4 Ext.refl S2 e2
  subst e4
  by_cases hz : ds.length + es.length ≤ sizeLine
  · simp only [if_pos hz] at hp4
    have hz' : xs.length + ys.length ≤ sizeLine := by rw [rr.length, r2.length]; exact hz
    obtain ⟨x3, S3⟩ := S2.list hn (by simp; omega) (rr.append r2) h1 trivial
    exact ⟨a, q, xs, ys, rfl, rfl, h1, h2, hz', hp4 .non ρ2 _ x3 S3 .non⟩
  · simp only [if_neg hz] at hp4; exact hp4.elim
/-- xs.pop(i), xs.pop() -/
def popG (a b : EG) : EG := fun δ => bnd (a δ) fun d => bnd (asL d) fun d => bnd (b δ) fun c => bnd (locL d) fun ds μ => match d, c with
  | .loc n, .int i => if -(2 ^ 63) ≤ i ∧ i < 2 ^ 63 then match seqIndex? i ds.length with
      | some k => match ds[k]? with
        | some y => .ok y (μ.set n (.lst (ds.eraseIdx k)))
        | none => .stuck
      | none => .stuck
    else .stuck
  | _, _ => .stuck
theorem sim_pop (ha : SimE K Γ E ta Fa) (hb : SimE K Γ E tb Fb) : SimE K Γ E (tBM K "list" rPopAt ta (tCons tb tNil)) (popG Fa Fb) := fun ρ μ δ σ H S e Q hp => by
  refine ha.go S e hp fun v d ρ1 μ1 H1 x1 S1 r1 hp1 => ?_
  obtain ⟨hty, hp1⟩ := asL_inv S1 r1 hp1
  refine ⟨hty, ?_⟩
  refine hb.go S1 (e.ext x1) hp1 fun w c ρ2 μ2 H2 x2 S2 r2 hp2 => ?_
  obtain ⟨ds, μ3, e1, hp3⟩ := bnd_inv (fun _ _ _ => locL_noex) hp2
  obtain ⟨e3, n, a, xs, h0, hn, hv, h1, l1, rr⟩ := locL_at S2 (r1.ext x2) e1
  subst e3; subst h0; subst hv
  cases r2 with
  | int i =>
    by_cases hi : -(2 ^ 63) ≤ i ∧ i < 2 ^ 63
    · simp only [if_pos hi] at hp3
      cases h2 : seqIndex? i ds.length with
      | none => simp only [h2] at hp3; exact hp3.elim
      | some k => cases h3 : ds[k]? with
        | none => simp only [h2, h3] at hp3; exact hp3.elim
        | some y =>
          simp only [h2, h3] at hp3
          obtain ⟨u, h4, h5⟩ := rr.getD h3
          obtain ⟨x3, S3⟩ := S2.list hn (Nat.le_trans (L2.len_erase _ _) l1) (rr.eraseIdx k) h1 trivial
          exact ⟨a, xs, i, k, u, rfl, rfl, h1, hi.1, hi.2, by rw [rr.length]; exact h2, h4, hp3 u ρ2 _ x3 S3 (h5.ext x3)⟩
    · simp only [if_neg hi] at hp3; exact hp3.elim
  | _ => exact hp3.elim
def pop0G (a : EG) : EG := fun δ => bnd (a δ) fun d => bnd (locL d) fun ds μ => match d with
  | .loc n => match ds[ds.length - 1]? with
    | some y => .ok y (μ.set n (.lst ds.dropLast))
    | none => .stuck
  | _ => .stuck
theorem RVs.dropLast : ∀ {vs : List V} {ds : List D}, RVs K ρ H vs ds → RVs K ρ H vs.dropLast ds.dropLast := fun {vs ds} r => by
  rw [List.dropLast_eq_take, List.dropLast_eq_take, r.length]
  exact r.take _
theorem sim_pop0 (ha : SimE K Γ E ta Fa) : SimE K Γ E (tBM0 K "list" rPop ta) (pop0G Fa) := fun ρ μ δ σ H S e Q hp => by
  refine ha.go S e hp fun v d ρ1 μ1 H1 x1 S1 r1 hp1 => ?_
  obtain ⟨ds, μ3, e1, hp3⟩ := bnd_inv (fun _ _ _ => locL_noex) hp1
  obtain ⟨e3, n, a, xs, h0, hn, hv, h1, l1, rr⟩ := locL_at S1 r1 e1
  subst e3; subst h0; subst hv
  refine ⟨.inl ⟨rfl, xs, SqL.of h1⟩, ?_⟩
  cases h3 : ds[ds.length - 1]? with
  | none => simp only [h3] at hp3; exact hp3.elim
  | some y =>
    simp only [h3] at hp3
    obtain ⟨u, h4, h5⟩ := rr.getD h3
    obtain ⟨x3, S3⟩ := S1.list hn (by simp; omega) rr.dropLast h1 trivial
    exact ⟨a, xs, u, rfl, rfl, h1, by rw [rr.length]; exact h4, hp3 u ρ1 _ x3 S3 (h5.ext x3)⟩

/-! ### dicts with keys that are ints or texts -/
def keyD (d : D) : Option Key := match d with
  | .int i => some (.inl i)
  | .str x => some (.inr x)
  | _ => none
theorem RV.key {v : V} {d : D} {k : Key} (r : RV K ρ H v d) (h : keyD d = some k) : v = kV k := by
  cases r <;> cases h <;> rfl
def dkL (d : D) : Mn (Nat × List (Key × D)) := fun μ => match d with
  | .loc n => match μ[n]? with
    | some (.dk es) => .ok (n, es) μ
    | _ => .stuck
  | _ => .stuck
theorem dkL_at {v : V} {d : D} {ne : Nat × List (Key × D)} {μ3 : Store} (S : SR K Γ ρ μ H) (r : RV K ρ H v d) (h : dkL d μ = .ok ne μ3) : μ3 = μ ∧ ∃ a kvs, ρ[ne.1]? = some a ∧ v = .ref a ∧ H a = some (.dK kvs) ∧ RKs K ρ H kvs ne.2 := by
  cases r with
  | @loc a n hn =>
    obtain ⟨o, ho, x⟩ := S.ob hn
    unfold dkL at h
    simp only [ho] at h
    cases x with
    | @dk kvs es e1 r1 => cases h; exact ⟨rfl, a, kvs, hn, rfl, e1, r1⟩
    | _ => cases h
  | _ => cases h
theorem dkL_noex {d : D} {μ μ3 : Store} {x : Exn} : dkL d μ ≠ .ex x μ3 := fun h => by
  unfold dkL at h
  split at h
  · split at h <;> cases h
  · cases h
/-- a dict's value -/
def valD {κ α : Type} [DecidableEq κ] (es : List (κ × α)) (k : κ) : Option α := (es.find? fun kv => decide (kv.1 = k)).map (·.2)
def putD {κ α : Type} [DecidableEq κ] (es : List (κ × α)) (k : κ) (v : α) : List (κ × α) :=
  if (es.any fun kv => decide (kv.1 = k)) = true then es.map (fun kv => if kv.1 = k then (kv.1, v) else kv) else es ++ [(k, v)]
theorem RKs.val {κ : Type} [DecidableEq κ] {k : κ} : ∀ {vs : List (κ × V)} {ds : List (κ × D)}, RKs K ρ H vs ds → (valV vs k = none ∧ valD ds k = none) ∨ ∃ v d, valV vs k = some v ∧ valD ds k = some d ∧ RV K ρ H v d
  | _, _, .nil => .inl ⟨rfl, rfl⟩
  | _, _, .cons (k := j) (v := v) (d := d) h t => by
    by_cases e : j = k
    · exact .inr ⟨v, d, by simp [valV, e], by simp [valD, e], h⟩
    · rcases RKs.val (k := k) t with ⟨h1, h2⟩ | ⟨w, c, h1, h2, h3⟩
      · exact .inl ⟨by simpa [valV, e] using h1, by simpa [valD, e] using h2⟩
      · exact .inr ⟨w, c, by simpa [valV, e] using h1, by simpa [valD, e] using h2, h3⟩
theorem RKs.append {κ : Type} : ∀ {vs ws : List (κ × V)} {ds es : List (κ × D)}, RKs K ρ H vs ds → RKs K ρ H ws es → RKs K ρ H (vs ++ ws) (ds ++ es)
  | _, _, _, _, .nil, s => s
  | _, _, _, _, .cons h t, s => .cons h (RKs.append t s)
theorem RKs.mapPut {κ : Type} [DecidableEq κ] {k : κ} {v : V} {d : D} (r : RV K ρ H v d) : ∀ {vs : List (κ × V)} {ds : List (κ × D)}, RKs K ρ H vs ds → RKs K ρ H (vs.map fun kv => if kv.1 = k then (kv.1, v) else kv) (ds.map fun kv => if kv.1 = k then (kv.1, d) else kv)
  | _, _, .nil => .nil
  | _, _, .cons (k := j) h t => by
    rw [List.map_cons, List.map_cons]
    by_cases e : j = k
    · simp only [e, if_true]; exact .cons r (RKs.mapPut r t)
    · simp only [e, if_false]; exact .cons h (RKs.mapPut r t)
theorem RKs.any {κ : Type} [DecidableEq κ] {k : κ} : ∀ {vs : List (κ × V)} {ds : List (κ × D)}, RKs K ρ H vs ds → (vs.any fun kv => decide (kv.1 = k)) = (ds.any fun kv => decide (kv.1 = k))
  | _, _, .nil => rfl
  | _, _, .cons h t => by rw [List.any_cons, List.any_cons, RKs.any t]
theorem RKs.put {κ : Type} [DecidableEq κ] {k : κ} {v : V} {d : D} {vs : List (κ × V)} {ds : List (κ × D)} (r : RV K ρ H v d) (h : RKs K ρ H vs ds) : RKs K ρ H (putK vs k v) (putD ds k d) := by
  unfold putK putD
  rw [h.any]
  split
  · exact RKs.mapPut r h
  · exact h.append (.cons r .nil)
theorem SR.dict {n : Nat} {a : Addr} {kvs : List (Key × V)} {es : List (Key × D)} (S : SR K Γ ρ μ H) (hn : ρ[n]? = some a) (r : RKs K ρ H kvs es) {u : HO} (hu : H a = some u) (hm : IsMut u) :
    Ext ρ H ρ (upd H a (.dK kvs)) ∧ SR K Γ ρ (μ.set n (.dk es)) (upd H a (.dK kvs)) := by
  have x : Ext ρ H ρ (upd H a (.dK kvs)) := Ext.write (List.mem_of_getElem? hn) hu hm
  exact ⟨x, S.write hn (.dk upd_same (r.ext x))⟩
/-- d[k] -/
def dgetG (a b : EG) : EG := fun δ => bnd (a δ) fun d => bnd (b δ) fun c => bnd (dkL d) fun ne μ => match keyD c with
  | some k => match valD ne.2 k with
    | some y => .ok y μ
    | none => .stuck
  | none => .stuck
theorem sim_dget (ha : SimE K Γ E ta Fa) (hb : SimE K Γ E tb Fb) : SimE K Γ E (tDGet ta tb) (dgetG Fa Fb) := fun ρ μ δ σ H S e Q hp => by
  refine ha.go S e hp fun v d ρ1 μ1 H1 x1 S1 r1 hp1 => ?_
  refine hb.go S1 (e.ext x1) hp1 fun w c ρ2 μ2 H2 x2 S2 r2 hp2 => ?_
  obtain ⟨ne, μ3, e1, hp3⟩ := bnd_inv (fun _ _ _ => dkL_noex) hp2
  obtain ⟨e3, a, kvs, hn, rfl, h1, rr⟩ := dkL_at S2 (r1.ext x2) e1
  subst e3
  cases hk : keyD c with
  | none => simp only [hk] at hp3; exact hp3.elim
  | some k =>
    simp only [hk] at hp3
    have hw := r2.key hk
    subst hw
    rcases rr.val (k := k) with ⟨h2, h3⟩ | ⟨u, y, h2, h3, h4⟩
    · simp only [h3] at hp3; exact hp3.elim
    · simp only [h3] at hp3
      exact ⟨a, u, rfl, by rw [← h2]; exact DGet.k h1, hp3 u ρ2 H2 Ext.refl S2 h4⟩
/-- d[k] = v -/
def dputG (a b c : EG) : SG := fun δ => thenS (c δ) fun x => thenS (a δ) fun d => thenS (b δ) fun y => thenS (dkL d) fun ne μ => match keyD y with
  | some k => if ne.2.length < sizeLine then .nx δ (μ.set ne.1 (.dk (putD ne.2 k x))) else .stuck
  | none => .stuck
theorem thenS_inv {γ : Type} {m : Mn γ} {f : γ → Store → Ss} {T : Ends} (hn : ∀ (μ2 : Store) (x : Exn) (μ3 : Store), m μ2 ≠ .ex x μ3) (hp : PostS K Γ E ρ H (thenS m f μ) T) : ∃ a μ', m μ = .ok a μ' ∧ PostS K Γ E ρ H (f a μ') T := by
  unfold thenS at hp
  cases h : m μ with
  | ok a μ' => rw [h] at hp; exact ⟨a, μ', rfl, hp⟩
  | ex x μ' => exact absurd h (hn _ _ _)
  | stuck => rw [h] at hp; exact hp.elim
theorem ss_dput (ha : SimE K Γ E ta Fa) (hb : SimE K Γ E tb Fb) (hc : SimE K Γ E tc Fc) : SimS K Γ E (sDPut ta tb tc) (dputG Fa Fb Fc) := fun ρ μ δ σ H S e T hp => by
  refine hc.goS S e hp fun z x ρ0 μ0 H0 x0 S0 r0 hp0 => ?_
  refine ha.goS S0 (e.ext x0) hp0 fun v d ρ1 μ1 H1 x1 S1 r1 hp1 => ?_
  refine hb.goS S1 ((e.ext x0).ext x1) hp1 fun w c ρ2 μ2 H2 x2 S2 r2 hp2 => ?_
  obtain ⟨ne, μ3, e1, hp3⟩ := thenS_inv (fun _ _ _ => dkL_noex) hp2
  obtain ⟨e3, a, kvs, hn, rfl, h1, rr⟩ := dkL_at S2 (r1.ext x2) e1
  subst e3
  cases hk : keyD c with
  | none => simp only [hk] at hp3; exact hp3.elim
  | some k =>
    simp only [hk] at hp3
    have hw := r2.key hk
    subst hw
    by_cases hz : ne.2.length < sizeLine
    · simp only [if_pos hz] at hp3
      obtain ⟨x3, S3⟩ := S2.dict hn (rr.put (k := k) ((r0.ext x1).ext x2)) h1 trivial
      exact ⟨a, _, rfl, DPut.k h1 (by rw [rr.length]; exact hz), hp3 σ ρ2 _ x3 S3 ((((e.ext x0).ext x1).ext x2).ext x3)⟩
    · simp only [if_neg hz] at hp3; exact hp3.elim
end
end Sim

set_option autoImplicit false
/-! Sim, part 7: defs as functions, what a call leaves behind forgotten, the law's end. -/
namespace Sim
open PySem L2 PyProof.Rows

/-! ### objects that nothing names any more -/
mutual
def D.bd (n : Nat) : D → Bool
  | .tup ds => bds n ds
  | .fz ds => bds n ds
  | .loc m => decide (m < n)
  | _ => true
def bds (n : Nat) : List D → Bool
  | [] => true
  | d :: ds => D.bd n d && bds n ds
end
def Ob.bd (n : Nat) : Ob → Bool
  | .lst ds => bds n ds
  | .dk es => bds n (es.map (·.2))
  | .ins _ fs => bds n (fs.map (·.2))
section
variable {K : PySem.W.Frag} {Γ : Clss} {E : XK} {ρ ρ1 ρ2 ρ' : List Addr} {H H1 H2 H' : Hp} {μ μ1 μ' : Store} {n : Nat}
mutual
theorem RV.bd : ∀ {v : V} {d : D}, RV K ρ H v d → d.bd ρ.length = true
  | _, _, .non => by simp [D.bd]
  | _, _, .bl _ => by simp [D.bd]
  | _, _, .int _ => by simp [D.bd]
  | _, _, .str _ => by simp [D.bd]
  | _, _, .tup _ _ r => by rw [D.bd]; exact RVs.bd r
  | _, _, .loc h => by rw [D.bd]; exact decide_eq_true (List.getElem?_eq_some_iff.mp h).1
  | _, _, .fz _ _ r => by rw [D.bd]; exact RVs.bd r
  | _, _, .ty _ => by simp [D.bd]
  | _, _, .adr _ => by simp [D.bd]
theorem RVs.bd : ∀ {v : List V} {d : List D}, RVs K ρ H v d → bds ρ.length d = true
  | _, _, .nil => by simp [bds]
  | _, _, .cons h t => by rw [bds, RV.bd h, RVs.bd t]; rfl
end
mutual
theorem RV.down {m : List Addr} : ∀ {v : V} {d : D}, RV K (ρ ++ m) H v d → d.bd ρ.length = true → RV K ρ H v d
  | _, _, .non, _ => .non
  | _, _, .bl b, _ => .bl b
  | _, _, .int b, _ => .int b
  | _, _, .str b, _ => .str b
  | _, _, .tup h l r, e => .tup h l (RVs.down r (by rw [D.bd] at e; exact e))
  | _, _, .loc h, e => .loc (by rw [D.bd] at e; rw [List.getElem?_append_left (of_decide_eq_true e)] at h; exact h)
  | _, _, .fz h l r, e => .fz h l (RVs.down r (by rw [D.bd] at e; exact e))
  | _, _, .ty n, _ => .ty n
  | _, _, .adr n, _ => .adr n
theorem RVs.down {m : List Addr} : ∀ {v : List V} {d : List D}, RVs K (ρ ++ m) H v d → bds ρ.length d = true → RVs K ρ H v d
  | _, _, .nil, _ => .nil
  | _, _, .cons h t, e => by
    rw [bds, Bool.and_eq_true] at e
    exact .cons (RV.down h e.1) (RVs.down t e.2)
end
theorem RKs.bd {κ : Type} : ∀ {vs : List (κ × V)} {ds : List (κ × D)}, RKs K ρ H vs ds → bds ρ.length (ds.map (·.2)) = true
  | _, _, .nil => by simp [bds]
  | _, _, .cons h t => by rw [List.map_cons, bds, h.bd, RKs.bd t]; rfl
theorem RKs.down {κ : Type} {m : List Addr} : ∀ {vs : List (κ × V)} {ds : List (κ × D)}, RKs K (ρ ++ m) H vs ds → bds ρ.length (ds.map (·.2)) = true → RKs K ρ H vs ds
  | _, _, .nil, _ => .nil
  | _, _, .cons h t, e => by
    rw [List.map_cons, bds, Bool.and_eq_true] at e
    exact .cons (h.down e.1) (RKs.down t e.2)
theorem OR.bd {a : Addr} {o : Ob} (x : OR K Γ ρ H a o) : o.bd ρ.length = true := by
  cases x with
  | lst _ _ r => exact r.bd
  | dk _ r => exact r.bd
  | ins _ _ r => exact r.bd
theorem OR.down {m : List Addr} {a : Addr} {o : Ob} (x : OR K Γ (ρ ++ m) H a o) (e : o.bd ρ.length = true) : OR K Γ ρ H a o := by
  cases x with
  | lst h l r => exact .lst h l (r.down e)
  | dk h r => exact .dk h (r.down e)
  | ins g h r => exact .ins g h (r.down e)
theorem SR.down {m : List Addr} (S : SR K Γ (ρ ++ m) μ H) (hl : ρ.length ≤ μ.length) (hb : ∀ o ∈ μ.take ρ.length, Ob.bd ρ.length o = true) : SR K Γ ρ (μ.take ρ.length) H := by
  refine ⟨by rw [List.length_take]; omega, (List.nodup_append.mp S.nd).1, fun n a o hn ho => ?_, S.kn⟩
  have hlt := (List.getElem?_eq_some_iff.mp hn).1
  refine (S.obs n a o (by rw [List.getElem?_append_left hlt]; exact hn) ?_).down (hb o (List.mem_of_getElem? ho))
  rw [List.getElem?_take_of_lt hlt] at ho
  exact ho
theorem Ext.less (x : Ext ρ H ρ' H') : Ext ρ H ρ H' := ⟨⟨[], by simp, fun _ z => nomatch z⟩, x.keep, x.there, x.tups, x.frzs, x.frzt⟩
/-- a def that changes nothing of what stood, and whose value names nothing new -/
def trimP (F : Fn) : Fn := fun ds μ => match F ds μ with
  | .ok d μ' => if d.bd μ.length = true ∧ μ'.take μ.length = μ then .ok d μ else .ok d μ'
  | r => r
/-- .. that may change what stood -/
def trimW (F : Fn) : Fn := fun ds μ => match F ds μ with
  | .ok d μ' => if d.bd μ.length = true ∧ (μ'.take μ.length).all (Ob.bd μ.length) = true ∧ μ.length ≤ μ'.length then .ok d (μ'.take μ.length) else .ok d μ'
  | r => r
theorem trimP_ok {F : Fn} {ds : List D} {Q : VK} (S : SR K Γ ρ μ H) (h : Post K Γ E (RV K) ρ H (trimP F ds μ) Q) : Post K Γ E (RV K) ρ H (F ds μ) Q := by
  unfold trimP at h
  cases e : F ds μ with
  | ex x μ' => rw [e] at h; exact h
  | stuck => rw [e] at h; exact h
  | ok d μ' =>
    rw [e] at h
    simp only at h
    split at h
    · rename_i hc
      intro v ρ' H' x S' r
      obtain ⟨m, hm, _⟩ := x.pre
      subst hm
      have hlen : ρ.length = μ.length := S.len
      have hb : d.bd ρ.length = true := by rw [hlen]; exact hc.1
      have S2 : SR K Γ ρ (μ'.take ρ.length) H' := by
        refine S'.down ?_ fun o ho => ?_
        · have := S'.len
          rw [List.length_append] at this; omega
        · rw [hlen, hc.2] at ho
          obtain ⟨n, hn, eo⟩ := List.mem_iff_getElem.mp ho
          obtain ⟨a, _, ha⟩ := S.ad (n := n) (o := o) (by rw [List.getElem?_eq_getElem hn, eo])
          exact ha.bd
      rw [hlen, hc.2] at S2
      exact h v ρ H' x.less S2 (r.down hb)
    · exact h
theorem trimW_ok {F : Fn} {ds : List D} {Q : VK} (S : SR K Γ ρ μ H) (h : Post K Γ E (RV K) ρ H (trimW F ds μ) Q) : Post K Γ E (RV K) ρ H (F ds μ) Q := by
  unfold trimW at h
  cases e : F ds μ with
  | ex x μ' => rw [e] at h; exact h
  | stuck => rw [e] at h; exact h
  | ok d μ' =>
    rw [e] at h
    simp only at h
    split at h
    · rename_i hc
      intro v ρ' H' x S' r
      obtain ⟨m, hm, _⟩ := x.pre
      subst hm
      have hlen : ρ.length = μ.length := S.len
      have S2 : SR K Γ ρ (μ'.take ρ.length) H' := S'.down (by rw [hlen]; exact hc.2.2) fun o ho => by
        rw [hlen] at ho ⊢
        exact List.all_eq_true.mp hc.2.1 o ho
      rw [hlen] at S2
      exact h v ρ H' x.less S2 (r.down (by rw [hlen]; exact hc.1))
    · exact h
end

/-! ### promises -/
/-- a def's promise: it does what F says, and raises nothing -/
def spN (K : PySem.W.Frag) (Γ : Clss) (k : Nat) (F : Fn) : Sp := fun vs H Q _ => vs.length = k ∧ ∃ (ρ : List Addr) (μ : Store) (ds : List D), SR K Γ ρ μ H ∧ RVs K ρ H vs ds ∧ Post K Γ E0 (RV K) ρ H (F ds μ) Q
/-- the def at f does what F says -/
def DefN (P : Program) (w : World) (K : PySem.W.Frag) (Γ : Clss) (mg : Str → Option Value) (base : Heap) (k : Nat) (f : Addr) (ps : List Str) (F : Fn) : Prop :=
  ∃ fd : FuncData, FnOk P w K mg base CX0 k f fd ps (spN K Γ ps.length F) ∧ Binds K fd ps []
section
variable {P : Program} {w : World} {K : PySem.W.Frag} {Γ : Clss} {mg : Str → Option Value} {base : Heap}
theorem def_fn {x qual : Str} {st : Stmt} {f : Addr} {fd : FuncData} {N ps : List Str} {k : Nat} {F : Fn} {G : SG} (Fu : Fun K x qual st f fd) (S : FnScope N ps (defScope st))
    (hF : ∀ (ds : List D) (μ : Store) (ρ : List Addr) (H : Hp) (Q : VK), SR K Γ ρ μ H → Post K Γ E0 (RV K) ρ H (F ds μ) Q → Post K Γ E0 (RV K) ρ H (fnG N.length G ds μ) Q)
    (hbody : ∀ (cdv : Value) (A : Around) (outer : List Env) (s : Shared) (H : Hp) (E : XK), Room k (A.deeper (envOfC qual (defScope st) s.heap.objs.size f cdv)) →
      ∃ t, PSs (cxOf CX0 P w K mg base N qual (defScope st) f cdv A outer s H E).nox (defBody st) t ∧ SimS K Γ E0 t G) : FnOk P w K mg base CX0 (k + 1) f fd ps (spN K Γ ps.length F) := by
  refine Fu.ok S (fun vs H Q E h => h.1) (fun cdv A outer s H vs Q E hr h => ?_)
  obtain ⟨_, ρ, μ, ds, S, r, hp⟩ := h
  obtain ⟨t, h1, h2⟩ := hbody cdv A outer s H E hr
  exact ⟨t, h1, body_ok S r h2 (hF ds μ ρ H Q S hp)⟩
theorem def_ok {x qual : Str} {st : Stmt} {f : Addr} {fd : FuncData} {N ps : List Str} {k : Nat} {F : Fn} {G : SG} (Fu : Fun K x qual st f fd) (B : Binds K fd ps []) (S : FnScope N ps (defScope st))
    (hF : ∀ (ds : List D) (μ : Store) (ρ : List Addr) (H : Hp) (Q : VK), SR K Γ ρ μ H → Post K Γ E0 (RV K) ρ H (F ds μ) Q → Post K Γ E0 (RV K) ρ H (fnG N.length G ds μ) Q)
    (hbody : ∀ (cdv : Value) (A : Around) (outer : List Env) (s : Shared) (H : Hp) (E : XK), Room k (A.deeper (envOfC qual (defScope st) s.heap.objs.size f cdv)) →
      ∃ t, PSs (cxOf CX0 P w K mg base N qual (defScope st) f cdv A outer s H E).nox (defBody st) t ∧ SimS K Γ E0 t G) : DefN P w K Γ mg base (k + 1) f ps F :=
  ⟨fd, def_fn Fu S hF hbody, B⟩
theorem const_mk {x : Str} {i : Int} {t : Tok} (a : PySem.W.nsIn K mainGlobals x = some (some (.int i t))) : ∃ t, PySem.W.nsIn K mainGlobals x = some (some (.int i t)) := ⟨t, a⟩
/-- a def of the top, where it stands -/
def At (K : PySem.W.Frag) (x : Str) (st : Stmt) : Prop := ∃ (f : Addr) (fd : FuncData), PySem.W.nsIn K mainGlobals x = some (some (.ref f)) ∧ Fun K x x st f fd
theorem at_mk {x : Str} {st : Stmt} {f : Addr} {oc : Value} {od an : Option Addr} {osl : Array (Option Value)} {kV doc pm cdv ct : Value} (a : PySem.W.nsIn K mainGlobals x = some (some (.ref f)))
    (l : K.lookup f = some ⟨oc, od, .func (PySem.W.fnOf x x (defArgs st) (defBody st) (defScope st) .none kV doc pm an cdv ct), osl⟩) (c : PySem.W.codeIn K cdv x = true) (k : PySem.W.keepIn K (.ref f) = true) : At K x st :=
  ⟨f, _, a, fun_mk l c k⟩
theorem hF_id {N : List Str} {G : SG} (ds : List D) (μ : Store) (ρ : List Addr) (H : Hp) (Q : VK) (_ : SR K Γ ρ μ H) (h : Post K Γ E0 (RV K) ρ H (fnG N.length G ds μ) Q) : Post K Γ E0 (RV K) ρ H (fnG N.length G ds μ) Q := h
end
section
variable {K : PySem.W.Frag} {Γ : Clss} {La : AG}
theorem sim_callN {k : Nat} {F : Fn} {t : TA} (ha : SimA K Γ E0 t La) (hk : ∀ δ μ ds μ', La δ μ = .ok ds μ' → ds.length = k) : SimE K Γ E0 (tCall (spN K Γ k F) [] E0 t) (callG F La) := fun ρ μ δ σ H S e Q hp => by
  unfold callG bnd at hp
  refine ha ρ μ δ σ H S e _ ?_
  cases h : La δ μ with
  | ex y μ' => rw [h] at hp; exact hp
  | stuck => rw [h] at hp; exact hp.elim
  | ok ds μ' =>
    rw [h] at hp
    intro vs ρ' H' x s r
    rw [List.append_nil]
    exact ⟨r.length.trans (hk δ μ ds μ' h), ρ', μ', ds, s, r, hp.weak x⟩
end

/-! ### the law's end, with what the top keeps apart -/
theorem walk_ofX {l : PySem.W.OpenLaw} {n k : Nat} {q : Program} {loose : List Str} {XP : (Str → Option Value) → Heap → Prop} {YP : World → Heap → Prop} {d : DefRec} {K : Params → PySem.W.Frag} {CX : World → CXT} {sp : World → Sp} {x : Str}
    (hn : l.most = some n) (hn2 : n ≤ sizeLine) (hdf : d.params.defaults = []) (hr : Room k callerA)
    (hY : ∀ (w : World) (h : Heap), YP w h → (K w.params).In h)
    (F : ∀ (w : World) (mg : Str → Option Value) (fa : Addr) (h : Heap), (K w.params).In h → h.Ns mainGlobals mg → XP mg h → mg d.name = some (.ref fa) →
      ∃ fd : FuncData, (∀ (s : Shared) (u : Value), BindsTo s fd ⟨[u], []⟩ [(x, u)]) ∧
        ∀ base : Heap, (K w.params).In base → base.Ns mainGlobals mg → FnOk l.prog w (K w.params) mg base (CX w) k fa fd [x] (sp w))
    (hsp : ∀ (w : World) (H : Hp) (a : Addr) (ns : List Int), ns.length ≤ n → Only H → SqL (K w.params) H a (ns.map V.int) → sp w [.ref a] H (fun v _ => v = .bl true) fun _ _ _ => False)
    (hCX : ∀ (w : World) (H : Hp) (s : Shared) (e : Value) (s' : Shared), CX w [] H s (fun _ _ _ => False) e s' → False) :
    PySem.W.WalkO q loose XP YP l.row.toRowW d [] (fun f vs => PySem.call f vs) := by
  refine Att.attach_call hn hdf fun w s₀ s₁ mg mb fa o pm cd doc a vs ns G Y ho hd hcd hmg hobj hints hlen hg => ?_
  obtain ⟨fd, hb, hF⟩ := F w mg fa _ (hY w _ Y) G.T.g G.X hmg
  exact law_call (hY w _ Y) G.T.g G.T.b G.T.builtins G.T.nolimit hg hobj hints (Nat.le_trans hlen hn2) hr hF hb (fun H hO hS => hsp w H a ns hlen hO hS) fun H e s' => hCX w H s₁ e s'
/-- what the top keeps apart: an int -/
theorem loose_int {p : Program} {lv : List (Str × PySem.W.WData)} {mg : Str → Option Value} {h : Heap} {x : Str} {i : Int} (X : PySem.W.XL p lv mg h) (hx : (x, PySem.W.WData.int i) ∈ lv) : ∃ t, mg x = some (.int i t) := by
  obtain ⟨v, a, b⟩ := X.2.val _ hx
  cases b with
  | int i t => exact ⟨t, a⟩
theorem only_fz {K : PySem.W.Frag} {H : Hp} {a : Addr} {xs : List V} (h : Only H) (s : SqL K H a xs) : FzL K H a xs := by
  rcases s with (s | ⟨o, s⟩) | s
  · rcases h a with z | ⟨o, ys, z⟩
    · rw [s] at z; cases z
    · rw [s] at z; cases z
  · exact .inl ⟨o, s⟩
  · exact .inr s
/-- the law's own promise, of F over the script's ints -/
theorem law_sp {K : PySem.W.Frag} {Γ : Clss} {F : Fn} {H : Hp} {a : Addr} {ns : List Int} (hl : ns.length ≤ 63) (h : Only H) (hk : Known Γ H) (s : SqL K H a (ns.map V.int)) (hF : ∃ μ', F [.fz (ns.map D.int)] [] = .ok (.bl true) μ') :
    spN K Γ 1 F [.ref a] H (fun v _ => v = .bl true) fun _ _ _ => False := by
  refine ⟨rfl, [], [], [.fz (ns.map D.int)], ⟨rfl, List.nodup_nil, fun n a o hn _ => by simp at hn, hk⟩, .cons (.fz (only_fz h s) ?_ (RVs.ofInts ns)) .nil, ?_⟩
  · rw [List.length_map, sizeLine_eq]; omega
  · obtain ⟨μ', e⟩ := hF
    rw [e]
    intro v ρ' H' _ _ r
    cases r
    rfl
end Sim

set_option autoImplicit false
/-! Sim, part 8: zip, enumerate. -/
namespace PySem
open Sem (wp)
set_option maxHeartbeats 1000000 in
/-- enumerate(v) -/
theorem sim_meets_enumerate {v : Value} {o : Obj} {H : Heap → Prop} (B : Begins v o H) :
    Meets (Builtin.«enumerate.__new__» ⟨[.type "enumerate", v], []⟩) (fun _ R s => H s.heap ∧
      R (.ok (.ret (.ref (s.heap.push o).objs.size))) { s with heap := (s.heap.push o).push { cls := .type "enumerate", data := .fields #[.none, .bool false, .ref s.heap.objs.size, rawInt 0, .none, .none] } }) :=
  .of_wp fun prog w A R s h => by
    obtain ⟨hp, g, d, tk, os⟩ := s
    obtain ⟨h1, h⟩ := h
    have hsub := sub_enumerate
    have q1 : ∀ {A' : Around} {E : Value → Shared → Prop} {Q : Value → Shared → Prop}, Q (.ref hp.objs.size) ⟨hp.push o, g, d, tk, os⟩ → wpAny (model prog w) A' (pyIter v) Q E ⟨hp, g, d, tk, os⟩ := fun q => B.iter prog w _ _ ⟨hp, g, d, tk, os⟩ _ h1 q
    wp_walk using q1
    refine wpAny_stack_any fun st => wpAny_pure ?_
    split
    · rename_i c _ _ _ _ _
      cases (c == Value.type "enumerate") <;> (wp_walk using q1; exact ⟨_, rfl, h⟩)
    · wp_walk using q1
      exact ⟨_, rfl, h⟩
theorem sim_call_enumerate {prog : Program} {w : World} {A : Around} {E : Value → Shared → Prop} {s : Shared} {v : Value} {o : Obj} {H : Heap → Prop} {Q : Value → Shared → Prop} (B : Begins v o H) (h1 : H s.heap)
    (h : ∀ h', IsEnum h' (s.heap.objs.size + 1) s.heap.objs.size 0 .none → h'.get? s.heap.objs.size = some o → (∀ b u, s.heap.get? b = some u → h'.get? b = some u) → Q (.ref (s.heap.objs.size + 1)) { s with heap := h' }) :
    wpAny (model prog w) A (call (.type "enumerate") [v]) Q E s := by
  refine callType_new F.called_enumerate (by decide) (F.typeCall_enumerate_1 _) (F.newCall_enumerate_1 _) (fun obj => F.args_object_init_2 obj _) F.entry_enumerate_new (sim_meets_enumerate B) ⟨h1, ?_⟩
  have hz : (s.heap.push o).objs.size = s.heap.objs.size + 1 := Heap.size_push ..
  show _ ∧ _
  rw [hz]
  have he : IsEnum ((s.heap.push o).push { cls := .type "enumerate", data := .fields #[.none, .bool false, .ref s.heap.objs.size, rawInt 0, .none, .none] }) (s.heap.objs.size + 1) s.heap.objs.size 0 .none := by
    have z := Heap.get?_push_size (s.heap.push o) (o := { cls := .type "enumerate", data := .fields #[.none, .bool false, .ref s.heap.objs.size, rawInt 0, .none, .none] }) rfl
    rw [hz] at z
    exact z
  exact ⟨⟨_, he, rfl⟩, h _ he (Heap.get?_push_of_some _ (Heap.get?_push_size _ B.free)) fun b u x => Heap.get?_push_of_some _ (Heap.get?_push_of_some _ x)⟩
end PySem

namespace Sim
open PySem L2 PyProof.Rows

/-! ### zip -/
def zipOf (xs ys : List D) : List D := (xs.zip ys).map fun p => .tup [p.1, p.2]
/-- a list that is walked, and what must stand -/
def walkL (d : D) : Mn Src := match d with
  | .fz ds => ret ⟨ds, fun _ => true⟩
  | .loc n => fun μ => match μ[n]? with
    | some (.lst ds) => .ok ⟨ds, fun μ => decide (μ[n]? = some (.lst ds))⟩ μ
    | _ => .stuck
  | _ => stk
def zipS (ds : List D) : Mn Src := match ds with
  | [.tup xs, .tup ys] => ret ⟨zipOf xs ys, fun _ => true⟩
  | [a, b] => bnd (walkL a) fun s => bnd (walkL b) fun t => ret ⟨zipOf s.items t.items, fun μ => s.chk μ && t.chk μ⟩
  | _ => stk
theorem zipS_two (d1 d2 : D) : (∃ xs ys, d1 = .tup xs ∧ d2 = .tup ys) ∨ zipS [d1, d2] = bnd (walkL d1) fun s => bnd (walkL d2) fun t => ret ⟨zipOf s.items t.items, fun μ => s.chk μ && t.chk μ⟩ := by
  cases d1 <;> cases d2 <;> first | exact .inr rfl | exact .inl ⟨_, _, rfl, rfl⟩
def zipG (a : AG) : SrcG := fun δ => bnd (a δ) zipS
section
variable {K : PySem.W.Frag} {Γ : Clss} {E : XK} {ρ ρ1 ρ2 ρ' : List Addr} {H H1 H2 H' : Hp} {μ μ1 : Store} {σ : L2.St} {δ : Dn}
variable {ta tb tc : TE} {Fa Fb Fc : EG} {La Lb : AG} {X : Cx} {tg : Expr}
theorem walkL_at {v : V} {d : D} {s : Src} {μ3 : Store} (S : SR K Γ ρ μ H) (r : RV K ρ H v d) (h : walkL d μ = .ok s μ3) : μ3 = μ ∧ ∃ a xs, v = .ref a ∧ SqL K H a xs ∧ xs.length ≤ sizeLine ∧ RVs K ρ H xs s.items ∧
    ∀ (ρ2 : List Addr) (μ2 : Store) (H2 : Hp), Up K ρ H ρ2 H2 → SR K Γ ρ2 μ2 H2 → s.chk μ2 = true → ∃ xs, SqL K H2 a xs ∧ RVs K ρ2 H2 xs s.items := by
  cases r with
  | @fz a xs ds h1 l1 t1 =>
    cases h
    exact ⟨rfl, a, xs, rfl, h1.sq, l1, t1, fun ρ2 μ2 H2 u _ _ => ⟨xs, (u.fzL _ _ h1).sq, t1.up u⟩⟩
  | @loc a n hn =>
    obtain ⟨o, ho, x⟩ := S.ob hn
    unfold walkL at h
    simp only [ho] at h
    cases x with
    | @lst xs ds e1 l1 r1 =>
      cases h
      refine ⟨rfl, a, xs, rfl, SqL.of e1, l1, r1, fun ρ2 μ2 H2 u S2 c => ?_⟩
      have y := S2.obs n a _ (u.sub n a hn) (of_decide_eq_true c)
      cases y with
      | @lst ys _ e2 l2 r2 => exact ⟨ys, SqL.of e2, r2⟩
    | _ => cases h
  | _ => cases h
theorem walkL_noex {d : D} {μ3 : Store} {x : Exn} (h : walkL d μ = .ex x μ3) : False := by
  unfold walkL at h
  cases d with
  | loc n => simp only at h; split at h <;> cases h
  | _ => cases h
theorem zip_get {α β : Type} : ∀ {xs : List α} {ys : List β} {i : Nat} {p : α × β}, (xs.zip ys)[i]? = some p → xs[i]? = some p.1 ∧ ys[i]? = some p.2 := fun {xs ys i p} h => by
  rw [List.getElem?_zip_eq_some] at h
  exact h
/-- pairs of two walks -/
theorem run_zip {SA SB : Hp → List V → Prop} {J : It} {xs ys : List D} {chk : Store → Bool}
    (hgo : ∀ (i : Nat) (H : Hp) (as bs : List V) (x y : V), SA H as → SB H bs → as[i]? = some x → bs[i]? = some y → J.go i H)
    (hy : ∀ (i : Nat) (H : Hp) (v : V) (H' : Hp), J.yld i H v H' → ∃ T x y, v = .ref T ∧ H T = none ∧ H' = upd H T (.tup [x, y]) ∧ (∀ as, SA H as → as[i]? = some x) ∧ ∀ bs, SB H bs → bs[i]? = some y)
    (hs : ∀ (i : Nat) (H : Hp) (as bs : List V), SA H as → SB H bs → as.length ≤ i ∨ bs.length ≤ i → J.stop i H)
    (h : ∀ (ρ2 : List Addr) (μ2 : Store) (H2 : Hp), Up K ρ H ρ2 H2 → SR K Γ ρ2 μ2 H2 → chk μ2 = true → (∃ as, SA H2 as ∧ RVs K ρ2 H2 as xs) ∧ ∃ bs, SB H2 bs ∧ RVs K ρ2 H2 bs ys) : RunI K Γ [] J ρ H ⟨zipOf xs ys, chk⟩ := by
  refine ⟨fun ρ2 μ2 H2 u f S c i d hd => ?_, fun ρ2 μ2 H2 u f S c => ?_⟩
  · obtain ⟨⟨as, ha, ra⟩, bs, hb, rb⟩ := h ρ2 μ2 H2 u S c
    simp only [zipOf, List.getElem?_map] at hd
    obtain ⟨p, hp, rfl⟩ := Option.map_eq_some_iff.mp hd
    obtain ⟨h1, h2⟩ := zip_get hp
    obtain ⟨x, hx, rx⟩ := ra.getD h1
    obtain ⟨y, hy', ry⟩ := rb.getD h2
    refine ⟨hgo i H2 as bs x y ha hb hx hy', fun v H3 q => ?_⟩
    obtain ⟨T, x', y', rfl, hT, rfl, f1, f2⟩ := hy i H2 v H3 q
    have e1 := f1 as ha
    have e2 := f2 bs hb
    rw [hx] at e1; rw [hy'] at e2
    cases e1; cases e2
    have x2 : Ext ρ2 H2 ρ2 (upd H2 T (.tup [x, y])) := Ext.new hT
    exact ⟨x2, S.new hT, .tup (.inl (.inl upd_same)) (by rw [sizeLine_eq]; show 2 ≤ _; omega) (.cons (rx.ext x2) (.cons (ry.ext x2) .nil))⟩
  · obtain ⟨⟨as, ha, ra⟩, bs, hb, rb⟩ := h ρ2 μ2 H2 u S c
    refine hs _ H2 as bs ha hb ?_
    show _ ≤ ((xs.zip ys).map _).length ∨ _ ≤ ((xs.zip ys).map _).length
    rw [List.length_map, List.length_zip, ra.length, rb.length]
    omega
theorem zipOf_len {xs ys : List D} {n : Nat} (h : xs.length ≤ n) : (zipOf xs ys).length ≤ n := by
  unfold zipOf
  rw [List.length_map, List.length_zip]; omega
theorem sim_zip {t : TA} (ha : SimA K Γ E t La) : SimI K Γ E (RZ.iZipA K t) (zipG La) := fun ρ μ δ σ H S e Q hp => by
  refine ha.go S e hp fun v d ρ1 μ1 H1 x1 S1 r1 hp1 => ?_
  have lists : ∀ {v1 v2 : V} {d1 d2 : D}, RV K ρ1 H1 v1 d1 → RV K ρ1 H1 v2 d2 → Post K Γ E (RelI K Γ H) ρ1 H1 (zipS [d1, d2] μ1) Q →
      ∃ a b xs ys, ([v1, v2] : List V) = [.ref a, .ref b] ∧ ((SqL K H1 a xs ∧ SqL K H1 b ys ∧ Q (Itz K a b) H1) ∨ (SqT K H1 a xs ∧ SqT K H1 b ys ∧ Q (RZ.ItzT K a b) H1)) := by
    intro v1 v2 d1 d2 r1 r2 h0
    rcases zipS_two d1 d2 with ⟨xs, ys, rfl, rfl⟩ | ez
    · cases r1 with
      | @tup a xs _ q1 l1 t1 =>
        cases r2 with
        | @tup b ys _ q2 l2 t2 =>
          refine ⟨a, b, xs, ys, rfl, .inr ⟨q1, q2, h0 (RZ.ItzT K a b) ρ1 H1 Ext.refl S1 ⟨zipOf_len (by rw [← t1.length]; exact l1), [], (fun _ z => nomatch z), ?_⟩⟩⟩
          refine run_zip (SA := fun H => SqT K H a) (SB := fun H => SqT K H b) (fun i H as bs x y h1 h2 h3 h4 => ⟨as, bs, x, y, h1, h2, h3, h4⟩) (fun i H v H' y => y) (fun i H as bs h1 h2 h3 => ⟨as, bs, h1, h2, h3⟩) fun ρ2 μ2 H2 u S2 c => ?_
          exact ⟨⟨xs, u.sqT _ _ q1, t1.up u⟩, ys, u.sqT _ _ q2, t2.up u⟩
    · rw [ez] at h0
      obtain ⟨s, μ2, h1, h2⟩ := bnd_inv (fun _ _ _ z => walkL_noex z) h0
      obtain ⟨t, μ3, h3, h4⟩ := bnd_inv (fun _ _ _ z => walkL_noex z) h2
      obtain ⟨e2, a, xs, rfl, qa, la, ra, ka⟩ := walkL_at S1 r1 h1
      rw [e2] at h3
      obtain ⟨e3, b, ys, rfl, qb, lb, rb, kb⟩ := walkL_at S1 r2 h3
      rw [e3] at h4
      refine ⟨a, b, xs, ys, rfl, .inl ⟨qa, qb, h4 (Itz K a b) ρ1 H1 Ext.refl S1 ⟨zipOf_len (by rw [← ra.length]; exact la), [], (fun _ z => nomatch z), ?_⟩⟩⟩
      refine run_zip (SA := fun H => SqL K H a) (SB := fun H => SqL K H b) (fun i H as bs x y h1 h2 h3 h4 => ⟨as, bs, x, y, h1, h2, h3, h4⟩) (fun i H v H' y => y) (fun i H as bs h1 h2 h3 => ⟨as, bs, h1, h2, h3⟩) fun ρ2 μ2 H2 u S2 c => ?_
      simp only [Bool.and_eq_true] at c
      exact ⟨ka ρ2 μ2 H2 u S2 c.1, kb ρ2 μ2 H2 u S2 c.2⟩
  cases r1 with
  | nil => exact hp1.elim
  | cons h t =>
    cases t with
    | nil => cases h <;> exact hp1.elim
    | cons h2 t =>
      cases t with
      | cons _ _ => cases h <;> cases h2 <;> exact hp1.elim
      | nil => exact lists h h2 hp1

/-! ### enumerate -/
/-- the tuple at a as it stands at each turn, each item in a new pair -/
def IteT (K : PySem.W.Frag) (a : Addr) : It :=
  ⟨fun i H => ∃ (xs : List V) (x : V), SqT K H a xs ∧ xs[i]? = some x, fun i H v H' => ∃ T x, v = .ref T ∧ H T = none ∧ H' = upd H T (.tup [.int (i : Nat), x]) ∧ ∀ xs, SqT K H a xs → xs[i]? = some x, fun i H => ∃ xs : List V, SqT K H a xs ∧ i = xs.length⟩
theorem turn_enumT {P : Program} {w : World} {elts : List Expr} {kk : Nat} {tpos : Pos} {a e it : Addr} (hai : a ≠ it) (hea : e ≠ a) :
    Turn P w K (.Tuple elts kk tpos) (IteT K a) [e, it] e (fun i h => (∃ old, IsEnum h e it ((i : Nat) : Int) old) ∧ h.IsTupleIter it a i ∧ e ≠ it) where
  mem := by simp
  obj := fun i h st b hb => by
    obtain ⟨⟨old, he⟩, ⟨o, ho, hc, hd⟩, _⟩ := st
    rcases (by simpa using hb : b = e ∨ b = it) with z | z
    · rw [z]; exact ⟨_, he, fun v q => nomatch q⟩
    · rw [z]; exact ⟨o, ho, fun v q => by rw [hd] at q; cases q⟩
  keep := fun i h h' st k => by
    obtain ⟨⟨old, he⟩, hi, hne⟩ := st
    exact ⟨⟨old, k e (by simp) _ he⟩, hi.at fun o q => k it (by simp) o q, hne⟩
  item := by
    intro X hP hw hK hc i pins s σ H E I hf st hg
    subst hP hw hK
    obtain ⟨⟨old, he⟩, hit, hne⟩ := st
    obtain ⟨xs, x, hq, hx⟩ := hg
    obtain ⟨its, rv, p, hz⟩ := I.tuple hq
    obtain ⟨u, hu, ru⟩ := rv.get hx
    have hel : e < s.heap.objs.size := Heap.lt_size he
    have hil : it < s.heap.objs.size := by obtain ⟨_, q, _⟩ := hit; exact Heap.lt_size q
    have hlt : i < its.toArray.size := by
      rw [List.size_toArray, ← rv.length]
      exact (List.getElem?_eq_some_iff.mp hx).1
    have hu2 : its.toArray[i]? = some u := by simpa using hu
    have D := Draws.tuple (prog := X.prog) (w := X.w) (A := X.A.in1) (I.ok.hd hc) it a hai its.toArray
    refine wpAny_pyNext_enum_itemD D he ⟨hit, p⟩ hlt hne (by simp [hne, hea]) fun v h' tk hP ho hs' hT hsz hk => ?_
    rw [hu2] at hP
    cases hP
    refine ⟨_, rfl, wpAny_letOwnedTupleGo_enum (s := { s with heap := h', toks := tk + 1 }) ho fun h'' he' sb => ?_⟩
    have hT2 : h''.get? s.heap.objs.size = some { cls := .type "tuple", data := .seq #[.int i tk, u] } := (sb.2 _ (Nat.ne_of_gt hel)).trans hT
    have new : ObjOk X.prog X.w (upd H s.heap.objs.size (.tup [.int (i : Nat), x])) h'' s.heap.objs.size (.tup [.int (i : Nat), x]) :=
      ⟨by show 2 ≤ sizeLine; decide, [.int i tk, u], .cons ⟨_, rfl⟩ (.cons ru .nil), ⟨_, hT2, rfl, _, rfl⟩⟩
    have I1 : Inv X pins σ (upd H s.heap.objs.size (.tup [.int (i : Nat), x])) { s with heap := h'', toks := tk + 1 } :=
      I.turnedNew (ch := [e, it]) (fun b ob hb q => (sb.2 b (fun z => hb (by simp [z]))).trans (hk b ob (fun z => hb (by simp [z])) (fun z => hb (by simp [z])) q)) hf (Nat.le_refl _) new
    refine ⟨.ref s.heap.objs.size, _, I1, rfl, ⟨_, x, rfl, I.hok.fresh (Nat.le_refl _), rfl, fun ys hy => by rw [I.tuple_inj hy hq]; exact hx⟩, ⟨⟨u, ?_⟩, hs'.1.at fun o q => (sb.2 it (Ne.symm hne)).trans q, hne⟩, fun b hb => ?_⟩
    · have e1 : ((i + 1 : Nat) : Int) = (i : Int) + 1 := by omega
      rw [e1]; exact he'
    · have hb' : b < s.heap.objs.size := by
        rcases (by simpa using hb : b = e ∨ b = it) with z | z
        · rw [z]; exact hel
        · rw [z]; exact hil
      rw [upd_ne (Nat.ne_of_lt hb')]
      exact (hf b hb).1
  done := by
    intro X hP hw hK hc i pins s σ H E I hf st hg
    subst hP hw hK
    obtain ⟨⟨old, he⟩, hit, hne⟩ := st
    obtain ⟨xs, hq, hx⟩ := hg
    obtain ⟨its, rv, p, hz⟩ := I.tuple hq
    obtain ⟨f0, f1, f2, f3, f4, f5⟩ := hf it (by simp)
    have hl : its.toArray.size = i := by rw [List.size_toArray, ← rv.length, hx]
    have D := Draws.tuple (prog := X.prog) (w := X.w) (A := X.A.in1) (I.ok.hd hc) it a hai its.toArray
    rw [hl] at D
    exact wpAny_pyNext_enum_endD D he ⟨hit, p⟩ fun h' eb => ⟨rfl, I.turned (t' := s.toks) (fun b o hb q => eb b o hb q) f0 f1 f3 f4 f5⟩
  self := fun A i s Q E st h => let ⟨⟨_, he⟩, _⟩ := st; wpAny_pyIter_enum he h
def iEnumA (K : PySem.W.Frag) (ta : TA) : TI := fun σ H R => ta σ H fun vs H1 => ∃ a xs, vs = [.ref a] ∧ ((SqL K H1 a xs ∧ R (Ite K a) H1) ∨ (SqT K H1 a xs ∧ R (IteT K a) H1))
theorem pi_enumA {e : Expr} {ta : TA} {p pos tpos : Pos} {elts : List Expr} {kk : Nat} (hg : Gl X "enumerate") (hm : X.mg "enumerate" = none) (ha : PA X [e] ta) (hs : starEach [e] X.env = [(false, eval e X.env)] := by rfl) :
    PI X (.Tuple elts kk tpos) (.Call (.Name "enumerate" p) [e] [] pos) (iEnumA X.K ta) := by
  refine ⟨fun pins s σ H R I h => ?_⟩
  refine Call_ (ld_blt I hg hm boot_enumerate (PyProof.Rows.callWith_type1 (thn (ha.run pos pins s σ H _ I h) fun us s1 ⟨vs, H1, I1, r1, q1⟩ => ?_) hs rfl))
  obtain ⟨a, xs, ex, q⟩ := q1
  subst ex
  cases r1 with
  | cons r rr =>
    cases rr
    cases r
    have fresh2 : ∀ b ∈ [s1.heap.objs.size + 1, s1.heap.objs.size], FpOk X pins H1 b := fun b hb => by
      have hle : s1.heap.objs.size ≤ b := by
        rcases (by simpa using hb : b = s1.heap.objs.size + 1 ∨ b = s1.heap.objs.size) with z | z
        · rw [z]; exact Nat.le_add_right _ _
        · rw [z]; exact Nat.le_refl _
      exact I1.fpOk hle (I1.hok.fresh hle)
    rcases q with ⟨hq, q⟩ | ⟨hq, q⟩
    · obtain ⟨its, rv, p', hz⟩ := I1.list hq
      refine call_enumerate_list p'.isList fun h' he hit hsz hk => wpAny_pyIter_enum he ?_
      have I2 : Inv X pins σ H1 { s1 with heap := h' } := I1.kept (t' := s1.toks) hk
      exact ⟨s1.heap.objs.size + 1, [s1.heap.objs.size + 1, s1.heap.objs.size], _, _, H1, rfl, I2, turn_enum a (s1.heap.objs.size + 1) s1.heap.objs.size, ⟨⟨.none, he⟩, hit, Nat.succ_ne_self _⟩, fresh2, q⟩
    · obtain ⟨its, rv, p', hz⟩ := I1.tuple hq
      have hal : a < s1.heap.objs.size := by obtain ⟨_, z, _⟩ := id p'; exact Heap.lt_size z
      refine sim_call_enumerate (begins_tuple a its.toArray) p' fun h' he hit hk => wpAny_pyIter_enum he ?_
      have I2 : Inv X pins σ H1 { s1 with heap := h' } := I1.kept (t' := s1.toks) hk
      exact ⟨s1.heap.objs.size + 1, [s1.heap.objs.size + 1, s1.heap.objs.size], _, _, H1, rfl, I2, turn_enumT (Nat.ne_of_lt hal) (Nat.ne_of_gt (Nat.lt_succ_of_lt hal)), ⟨⟨.none, he⟩, ⟨_, hit, rfl, rfl⟩, Nat.succ_ne_self _⟩, fresh2, q⟩
def enumOf (xs : List D) : List D := xs.mapIdx fun i d => .tup [.int (i : Nat), d]
theorem run_enum {SA : Hp → List V → Prop} {J : It} {xs : List D} {chk : Store → Bool}
    (hgo : ∀ (i : Nat) (H : Hp) (as : List V) (x : V), SA H as → as[i]? = some x → J.go i H)
    (hy : ∀ (i : Nat) (H : Hp) (v : V) (H' : Hp), J.yld i H v H' → ∃ T x, v = .ref T ∧ H T = none ∧ H' = upd H T (.tup [.int (i : Nat), x]) ∧ ∀ as, SA H as → as[i]? = some x)
    (hs : ∀ (H : Hp) (as : List V), SA H as → J.stop as.length H)
    (h : ∀ (ρ2 : List Addr) (μ2 : Store) (H2 : Hp), Up K ρ H ρ2 H2 → SR K Γ ρ2 μ2 H2 → chk μ2 = true → ∃ as, SA H2 as ∧ RVs K ρ2 H2 as xs) : RunI K Γ [] J ρ H ⟨enumOf xs, chk⟩ := by
  refine ⟨fun ρ2 μ2 H2 u f S c i d hd => ?_, fun ρ2 μ2 H2 u f S c => ?_⟩
  · obtain ⟨as, ha, ra⟩ := h ρ2 μ2 H2 u S c
    simp only [enumOf, List.getElem?_mapIdx] at hd
    obtain ⟨p, hp, rfl⟩ := Option.map_eq_some_iff.mp hd
    obtain ⟨x, hx, rx⟩ := ra.getD hp
    refine ⟨hgo i H2 as x ha hx, fun v H3 q => ?_⟩
    obtain ⟨T, x', rfl, hT, rfl, f1⟩ := hy i H2 v H3 q
    have e1 := f1 as ha
    rw [hx] at e1
    cases e1
    have x2 : Ext ρ2 H2 ρ2 (upd H2 T (.tup [.int (i : Nat), x])) := Ext.new hT
    exact ⟨x2, S.new hT, .tup (.inl (.inl upd_same)) (by rw [sizeLine_eq]; show 2 ≤ _; omega) (.cons (.int _) (.cons (rx.ext x2) .nil))⟩
  · obtain ⟨as, ha, ra⟩ := h ρ2 μ2 H2 u S c
    have z := hs H2 as ha
    have hl : as.length = (enumOf xs).length := by unfold enumOf; rw [List.length_mapIdx, ra.length]
    show J.stop (enumOf xs).length H2
    rw [← hl]; exact z
def enumS (ds : List D) : Mn Src := match ds with
  | [.tup xs] => ret ⟨enumOf xs, fun _ => true⟩
  | [a] => bnd (walkL a) fun s => ret ⟨enumOf s.items, s.chk⟩
  | _ => stk
theorem enumS_one (d1 : D) : (∃ xs, d1 = .tup xs) ∨ enumS [d1] = bnd (walkL d1) fun s => ret ⟨enumOf s.items, s.chk⟩ := by
  cases d1 <;> first | exact .inr rfl | exact .inl ⟨_, rfl⟩
def enumG (a : AG) : SrcG := fun δ => bnd (a δ) enumS
theorem enumOf_len {xs : List D} {n : Nat} (h : xs.length ≤ n) : (enumOf xs).length ≤ n := by
  unfold enumOf
  rw [List.length_mapIdx]; omega
theorem sim_enum {t : TA} (ha : SimA K Γ E t La) : SimI K Γ E (iEnumA K t) (enumG La) := fun ρ μ δ σ H S e Q hp => by
  refine ha.go S e hp fun v d ρ1 μ1 H1 x1 S1 r1 hp1 => ?_
  have lists : ∀ {v1 : V} {d1 : D}, RV K ρ1 H1 v1 d1 → Post K Γ E (RelI K Γ H) ρ1 H1 (enumS [d1] μ1) Q →
      ∃ a xs, ([v1] : List V) = [.ref a] ∧ ((SqL K H1 a xs ∧ Q (Ite K a) H1) ∨ (SqT K H1 a xs ∧ Q (IteT K a) H1)) := by
    intro v1 d1 r1 h0
    rcases enumS_one d1 with ⟨xs, rfl⟩ | ez
    · cases r1 with
      | @tup a xs _ q1 l1 t1 =>
        refine ⟨a, xs, rfl, .inr ⟨q1, h0 (IteT K a) ρ1 H1 Ext.refl S1 ⟨enumOf_len (by rw [← t1.length]; exact l1), [], (fun _ z => nomatch z), ?_⟩⟩⟩
        exact run_enum (SA := fun H => SqT K H a) (fun i H as x h1 h2 => ⟨as, x, h1, h2⟩) (fun i H v H' y => y) (fun H as h1 => ⟨as, h1, rfl⟩) fun ρ2 μ2 H2 u _ _ => ⟨xs, u.sqT _ _ q1, t1.up u⟩
    · rw [ez] at h0
      obtain ⟨s, μ2, h1, h2⟩ := bnd_inv (fun _ _ _ z => walkL_noex z) h0
      obtain ⟨e2, a, xs, rfl, qa, la, ra, ka⟩ := walkL_at S1 r1 h1
      rw [e2] at h2
      refine ⟨a, xs, rfl, .inl ⟨qa, h2 (Ite K a) ρ1 H1 Ext.refl S1 ⟨enumOf_len (by rw [← ra.length]; exact la), [], (fun _ z => nomatch z), ?_⟩⟩⟩
      exact run_enum (SA := fun H => SqL K H a) (fun i H as x h1 h2 => ⟨as, x, h1, h2⟩) (fun i H v H' y => y) (fun H as h1 => ⟨as, h1, Nat.le_refl _⟩) ka
  cases r1 with
  | nil => exact hp1.elim
  | cons h t =>
    cases t with
    | cons _ _ => cases h <;> exact hp1.elim
    | nil => exact lists h hp1
end
end Sim

set_option autoImplicit false
/-! Sim, part 9: comprehensions of two clauses, dict displays. -/
namespace Sim
open PySem L2 PyProof.Rows

def lc2L (own own1 : List Nat) (set : TgF) (tst : BG) (I1 : SrcG) (set1 : TgF) (tst1 : BG) (elt : EG) (chk : Store → Bool) (δ : Dn) : List D → List D → Mn (List D)
  | [], acc => fun μ => if chk μ = true then .ok acc μ else .stuck
  | x :: xs, acc => fun μ => if chk μ = true then
      match set x (wipeD δ own) with
      | none => .stuck
      | some δ1 => match tst δ1 μ with
        | .ok b μ1 => if b = true then
            match I1 δ1 μ1 with
            | .ok s μ2 => match lcL true own1 set1 tst1 elt s.chk δ1 s.items acc μ2 with
              | .ok acc2 μ3 => lc2L own own1 set tst I1 set1 tst1 elt chk δ xs acc2 μ3
              | _ => .stuck
            | _ => .stuck
          else lc2L own own1 set tst I1 set1 tst1 elt chk δ xs acc μ1
        | _ => .stuck
    else .stuck
def lc2G (own own1 : List Nat) (I : SrcG) (set : TgF) (tst : BG) (I1 : SrcG) (set1 : TgF) (tst1 : BG) (elt : EG) : AG := fun δ => bnd (I δ) fun s => lc2L own own1 set tst I1 set1 tst1 elt s.chk δ s.items []
theorem lc2L_noex {own own1 : List Nat} {set : TgF} {tst : BG} {I1 : SrcG} {set1 : TgF} {tst1 : BG} {elt : EG} {chk : Store → Bool} {δ : Dn} {x : Exn} {ν : Store} : ∀ (xs acc : List D) (μ : Store), lc2L own own1 set tst I1 set1 tst1 elt chk δ xs acc μ ≠ .ex x ν := by
  intro xs
  induction xs with
  | nil => intro acc μ h; unfold lc2L at h; split at h <;> cases h
  | cons y ys ih =>
    intro acc μ h
    unfold lc2L at h
    split at h
    · split at h
      · cases h
      · split at h
        · split at h
          · split at h
            · split at h
              · exact ih _ _ h
              · cases h
            · cases h
          · exact ih _ _ h
        · cases h
    · cases h
section
variable {K : PySem.W.Frag} {Γ : Clss} {E : XK} {ρ ρ1 ρ2 ρ' ρa ρb : List Addr} {H H1 H2 H' Ha Hb : Hp} {μ μ1 : Store} {σ : L2.St} {δ : Dn} {fp : List (Addr × HO)} {A : Addr} {ds : List D}
variable {ta tb tc : TE} {Fa Fb Fc : EG} {La Lb : AG}
theorem RunI.more {fq : List (Addr × HO)} {J : It} {s : Src} (h : RunI K Γ fp J ρ H s) (hs : ∀ p ∈ fp, p ∈ fq) : RunI K Γ fq J ρ H s :=
  ⟨fun ρ2 μ2 H2 u f => h.item ρ2 μ2 H2 u fun p hp => f p (hs p hp), fun ρ2 μ2 H2 u f => h.stop ρ2 μ2 H2 u fun p hp => f p (hs p hp)⟩
theorem sim_lc2 {own own1 sl sl1 : List Nat} {wi wi1 : TI} {I I1 : SrcG} {g g1 : TG} {set set1 : TgF} {tt tt1 : TT} {tst tst1 : BG} {te : TE} {elt : EG} (hi : SimI K Γ E wi I) (hg : SimG K g sl set) (ht : SimT K Γ EN tt tst)
    (hi1 : SimI K Γ EN wi1 I1) (hg1 : SimG K g1 sl1 set1) (ht1 : SimT K Γ EN tt1 tst1) (he : SimE K Γ EN te elt) (hsl : ∀ i ∈ sl, i ∈ own := by decide) (hsl1 : ∀ i ∈ sl1, i ∈ own1 := by decide) :
    SimL K Γ E (tLc2 wi g tt wi1 g1 tt1 te own own1) (lc2G own own1 I set tst I1 set1 tst1 elt) := fun ρ μ δ σ H S e Q hp => by
  refine hi.go S e hp fun J s ρ1 μ1 H1 x1 S1 r1 hp1 A hA => ?_
  obtain ⟨hlen, fp, hfp, hr⟩ := r1
  have hE := e.ext x1
  have hAρ : A ∉ ρ1 := S1.fresh hA
  have x2 : Ext ρ1 H1 ρ1 (upd H1 A (.lst [])) := Ext.new hA
  have L0 : LoopSt K Γ ρ1 H1 ρ1 H1 fp A ρ1 μ1 (upd H1 A (.lst [])) [] := by
    refine ⟨x2, hA, S1.new hA, x2.up, fun p hp => ?_, ⟨[], upd_same, Nat.zero_le _, .nil⟩, hAρ⟩
    obtain ⟨a, b, c, d⟩ := hfp p hp
    have hne := ne_of_none b hA
    exact ⟨by rw [upd_ne hne]; exact b, c, d, hne⟩
  have hf : Fin K Γ ρ1 H1 ρ1 H1 fp A (fun H => Q (.ref A) H) (lc2L own own1 set tst I1 set1 tst1 elt s.chk δ s.items [] μ1) := by
    cases h : lc2L own own1 set tst I1 set1 tst1 elt s.chk δ s.items [] μ1 with
    | ok ds μ' =>
      intro ρ2 H2 L
      rw [h] at hp1
      obtain ⟨xs, a1, a2, a3⟩ := L.acc
      exact hp1 (.ref A) ρ2 H2 L.ext L.sr ⟨A, xs, rfl, x1.there A hA, L.out, a1, a2, a3⟩
    | ex y ν => exact absurd h (lc2L_noex _ _ _)
    | stuck => rw [h] at hp1; exact hp1.elim
  refine ⟨fun i m H => m = s.items.length - i ∧ i ≤ s.items.length ∧ ∃ ρ2 μ2 ds, LoopSt K Γ ρ1 H1 ρ1 H1 fp A ρ2 μ2 H ds ∧ Fin K Γ ρ1 H1 ρ1 H1 fp A (fun H => Q (.ref A) H) (lc2L own own1 set tst I1 set1 tst1 elt s.chk δ (s.items.drop i) ds μ2), ⟨s.items.length, by simp, Nat.zero_le _, ρ1, μ1, [], L0, by simpa using hf⟩, ?_⟩
  rintro i m H ⟨rfl, hi, ρ2, μ2, ds, L, hf2⟩
  by_cases hlt : i < s.items.length
  · obtain ⟨d, hd⟩ : ∃ d, s.items[i]? = some d := ⟨_, List.getElem?_eq_getElem hlt⟩
    have e : s.items.drop i = d :: s.items.drop (i + 1) := by
      rw [List.drop_eq_getElem_cons hlt]
      rw [List.getElem?_eq_getElem hlt] at hd
      cases hd; rfl
    rw [e] at hf2
    unfold lc2L at hf2
    by_cases hc : s.chk μ2 = true
    · simp only [if_pos hc] at hf2
      obtain ⟨hgo, hy⟩ := hr.item ρ2 μ2 H L.up (fun p hp => (L.fps p hp).1) L.sr hc i d hd
      refine .inr ⟨hgo, fun H' => ∃ ρ2 μ2 ds, LoopSt K Γ ρ1 H1 ρ1 H1 fp A ρ2 μ2 H' ds ∧ Fin K Γ ρ1 H1 ρ1 H1 fp A (fun H => Q (.ref A) H) (lc2L own own1 set tst I1 set1 tst1 elt s.chk δ (s.items.drop (i + 1)) ds μ2),
        fun H' h => ⟨s.items.length - (i + 1), by omega, rfl, hlt, h⟩, fun x H3 y => ?_⟩
      obtain ⟨x3, S3, r3⟩ := hy x H3 y
      have L3 := L.step x3 S3
      cases h1 : set d (wipeD δ own) with
      | none => simp only [h1] at hf2; exact hf2.elim
      | some δ1 =>
        simp only [h1] at hf2
        refine hg ρ2 H3 _ _ δ1 x d _ ((hE.up L3.up).wipe own) r3 h1 fun σ2 e2 w2 => ⟨(w2 own hsl).trans ?_, ?_⟩
        · apply List.ext_getElem?
          intro j
          simp only [wipe_get, wipe_length]
          split <;> simp_all
        cases h2 : tst δ1 μ2 with
        | ex _ _ => simp only [h2] at hf2; exact hf2.elim
        | stuck => simp only [h2] at hf2; exact hf2.elim
        | ok b μ3 =>
          simp only [h2] at hf2
          refine ht ρ2 μ2 δ1 σ2 H3 S3 e2 _ ?_
          rw [h2]
          intro b' ρ4 H4 x4 S4 eb
          cases eb
          have L4 := L3.step x4 S4
          cases b with
          | false =>
            simp only [Bool.false_eq_true, if_false] at hf2 ⊢
            exact ⟨ρ4, μ3, ds, L4, hf2⟩
          | true =>
            simp only [if_true] at hf2 ⊢
            cases h3 : I1 δ1 μ3 with
            | ex _ _ => simp only [h3] at hf2; exact hf2.elim
            | stuck => simp only [h3] at hf2; exact hf2.elim
            | ok s1 μ5 =>
              simp only [h3] at hf2
              have e4 := e2.ext x4
              refine hi1 ρ4 μ3 δ1 σ2 H4 S4 e4 _ ?_
              rw [h3]
              intro J1 ρ5 H5 x5 S5 rJ
              obtain ⟨hlen1, fp1, hfp1, hr1⟩ := rJ
              have L5 := L4.step x5 S5
              have Li : LoopSt K Γ ρ1 H1 ρ5 H5 (fp ++ fp1) A ρ5 μ5 H5 ds := by
                refine ⟨L5.ext, L5.fresh, L5.sr, Up.refl, fun p hp => ?_, L5.acc, L5.out⟩
                rcases List.mem_append.mp hp with hp | hp
                · exact L5.fps p hp
                · obtain ⟨a, b, c, d⟩ := hfp1 p hp
                  obtain ⟨xs, z, _⟩ := L4.acc
                  exact ⟨b, c, d, fun q => by rw [q, z] at a; cases a⟩
              refine lc_run (ck := true) (ρa := ρ1) (Ha := H1) (ρb := ρ5) (Hb := H5) (fp := fp ++ fp1) (acc0 := ds) hg1 hsl1 ht1 he (hr1.more fun p hp => List.mem_append_right _ hp) (e4.ext x5) (.inl rfl) Li ?_
              cases h4 : lcL true own1 set1 tst1 elt s1.chk δ1 s1.items ds μ5 with
              | ex _ _ => simp only [h4] at hf2; exact hf2.elim
              | stuck => simp only [h4] at hf2; exact hf2.elim
              | ok ds2 μ6 =>
                simp only [h4] at hf2
                intro ρ6 H6 L6
                refine ⟨ρ6, μ6, ds2, ⟨L6.ext, L6.fresh, L6.sr, L5.up.trans L6.up, fun p hp => L6.fps p (List.mem_append_left _ hp), L6.acc, L6.out⟩, hf2⟩
    · simp only [if_neg hc] at hf2; exact hf2.elim
  · have ei : i = s.items.length := by omega
    subst ei
    rw [List.drop_length] at hf2
    unfold lc2L at hf2
    by_cases hc : s.chk μ2 = true
    · simp only [if_pos hc] at hf2
      exact .inl ⟨hr.stop ρ2 μ2 H L.up (fun p hp => (L.fps p hp).1) L.sr hc, hf2 ρ2 H L⟩
    · simp only [if_neg hc] at hf2; exact hf2.elim

/-! ### dict displays -/
abbrev PG2 := Dn → Mn (List (Key × D))
def RelP (K : PySem.W.Frag) : List Addr → Hp → List (V × V) → List (Key × D) → Prop := fun ρ H ps kds => ∃ kvs : List (Key × V), ps = kvs.map (fun kv => (kV kv.1, kv.2)) ∧ RKs K ρ H kvs kds
def SimP (K : PySem.W.Frag) (Γ : Clss) (E : XK) (trs : List (TE × TE)) (F : PG2) : Prop :=
  ∀ (ρ : List Addr) (μ : Store) (δ : Dn) (σ : L2.St) (H : Hp), SR K Γ ρ μ H → ER K ρ H σ δ → ∀ Q : List (V × V) → Hp → Prop, Post K Γ E (RelP K) ρ H (F δ μ) Q → tPairs trs σ H Q
def nilPG : PG2 := fun _ => ret []
def consPG (a b : EG) (r : PG2) : PG2 := fun δ => bnd (a δ) fun kd => bnd (b δ) fun d => bnd (r δ) fun kds => match keyD kd with
  | some k => ret ((k, d) :: kds)
  | none => stk
theorem sim_ppnil : SimP K Γ E [] nilPG := fun ρ μ δ σ H S e Q hp => hp [] ρ H Ext.refl S ⟨[], rfl, .nil⟩
theorem sim_ppcons {trs : List (TE × TE)} {r : PG2} (ha : SimE K Γ E ta Fa) (hb : SimE K Γ E tb Fb) (hr : SimP K Γ E trs r) : SimP K Γ E ((ta, tb) :: trs) (consPG Fa Fb r) := fun ρ μ δ σ H S e Q hp => by
  refine ha.go S e hp fun v kd ρ1 μ1 H1 x1 S1 r1 hp1 => ?_
  refine hb.go S1 (e.ext x1) hp1 fun w c ρ2 μ2 H2 x2 S2 r2 hp2 => ?_
  refine Sim.go (T := fun P => tPairs trs σ H2 P) (hr ρ2 μ2 δ σ H2 S2 ((e.ext x1).ext x2)) hp2 fun ps kds ρ3 μ3 H3 x3 S3 r3 hp3 => ?_
  obtain ⟨kvs, rfl, rk⟩ := r3
  cases hk : keyD kd with
  | none => simp only [hk] at hp3; exact hp3.elim
  | some k =>
    simp only [hk] at hp3
    rw [r1.key hk]
    exact hp3 _ ρ3 H3 Ext.refl S3 ⟨(k, w) :: kvs, rfl, .cons (r2.ext x3) rk⟩
def mergeD (es : List (Key × D)) : List (Key × D) → List (Key × D)
  | [] => es
  | (k, d) :: r => mergeD (putD es k d) r
theorem RKs.merge : ∀ {more : List (Key × V)} {ds : List (Key × D)} {kvs : List (Key × V)} {es : List (Key × D)}, RKs K ρ H more ds → RKs K ρ H kvs es → RKs K ρ H (mergeK kvs more) (mergeD es ds)
  | [], _, _, _, r, s => by cases r; exact s
  | (k, v) :: vs, _, _, _, r, s => by
    cases r with
    | @cons k v d vs ds h t => exact RKs.merge (more := vs) (ds := ds) (kvs := putK _ k v) (es := putD _ k d) t (RKs.put h s)
def dispG (r : PG2) : EG := fun δ => bnd (r δ) fun kds μ => if kds.length ≤ 15 then .ok (.loc μ.length) (μ ++ [.dk (mergeD [] kds)]) else .stuck
theorem sim_disp {trs : List (TE × TE)} {r : PG2} (hr : SimP K Γ E trs r) : SimE K Γ E (tDisp trs) (dispG r) := fun ρ μ δ σ H S e Q hp => by
  intro p hpn
  have x0 : Ext ρ H ρ (upd H p (.dK [])) := Ext.new hpn
  unfold dispG bnd at hp
  refine hr ρ μ δ σ _ (S.new hpn) (e.ext x0) _ ?_
  cases h : r δ μ with
  | ex y μ' =>
    rw [h] at hp
    exact fun ρ' H' C od z s g d => hp ρ' H' C od (x0.trans z) s g d
  | stuck => rw [h] at hp; exact hp.elim
  | ok kds μ' =>
    rw [h] at hp
    rintro ps ρ3 H3 x3 S3 ⟨kvs, rfl, rk⟩
    by_cases hl : kds.length ≤ 15
    · simp only [if_pos hl] at hp
      have h3 : H3 p = some (.dK []) := x3.keep p _ upd_same (S.fresh hpn) trivial
      have hpρ : p ∉ ρ3 := x3.notIn upd_same (S.fresh hpn)
      refine ⟨h3, kvs, rfl, by rw [rk.length]; exact hl, ?_⟩
      have u : Up K ρ3 H3 ρ3 (upd H3 p (.dK (mergeK [] kvs))) := Up.poke h3 trivial
      have S4 : SR K Γ ρ3 μ' (upd H3 p (.dK (mergeK [] kvs))) := S3.poke hpρ h3 trivial
      refine hp (.ref p) (ρ3 ++ [p]) _ (((x0.trans x3).poke hpn ⟨_, h3⟩).adopt hpn) (S4.adopt hpρ (.dk upd_same ((RKs.merge rk .nil).up u))) (.loc ?_)
      rw [List.getElem?_append_right (by rw [S3.len]; exact Nat.le_refl _), S3.len, Nat.sub_self]; rfl
    · simp only [if_neg hl] at hp; exact hp.elim
end
end Sim

set_option autoImplicit false
/-! Sim, part 10: sorted(set(..)), len(set(..)). -/
namespace L2
open PySem PySem.Spec PyProof.Rows
section
variable {P : Program} {w : World} {A : Around} {E : Value → Shared → Prop} {s : Shared}
/-- a new empty set, as set(..) makes it -/
abbrev nsO (w : World) : Obj := { cls := .type "set", dict := none, data := .set #[] 0 (.fresh 0 0 (!w.params.followText "set-order")) }
abbrev nsH (w : World) (h : Heap) : Heap := h.push (nsO w)
set_option maxHeartbeats 3200000 in
/-- set(xs), xs a list of ints -/
theorem sim_set_listI {l : Addr} {items : Array Value} (ns : List Int) {Q : Value → Shared → Prop} (hh : A.handled = none) (hl : s.heap.IsList l items) (hit : IntsAre items.toList ns) (hb : ns.length + 1 < scanBound)
    (h : ∀ (h' : Heap) (tk c : Nat), SetR w h' s.heap.objs.size (fun j => decide (j ∈ ns)) c → c ≤ ns.length → (∀ b o, s.heap.get? b = some o → h'.get? b = some o) → Q (.ref s.heap.objs.size) { s with heap := h', toks := tk }) :
    wpAny (model P w) A (call (.type "set") [.ref l]) Q E s := by
  have hisz : items.size = ns.length := (Array.length_toList (xs := items)).symm.trans (IntsAre.length hit)
  have ⟨c, tl, hmro⟩ := F.called_set.mro
  have k1 := F.called_set.made
  have k2 := F.called_set.sub
  refine wpAny_call (codeAny_of_tree (?_ : wpAny _ _ (callAny (.type "set") _) _ _ _))
  refine wpAny_pure ⟨Code.quiet_builtin _ (by decide +kernel), codeAny_builtin F.entry_type_call ?_⟩
  rw [Around.under_plain (weight_type_call_type "set" [.ref l] []) rfl]
  have k3 := F.called_set.notType
  have k4 := F.called_set.canCreate
  have k5 := F.typeCall_set_1 (.ref l)
  repeat (any_goals (first | assumption | wp_step))
  refine codeAny_mono (code_set_led1 (.ref l) (E := E) (Q₁ := fun obj s₁ => obj = .ref s.heap.objs.size ∧ s₁ = { s with heap := nsH w s.heap }) ⟨rfl, rfl⟩) fun r s₁ hr => ?_
  cases r with
  | error e => exact hr
  | ok fl =>
    cases fl with
    | ret obj =>
      obtain ⟨rfl, rfl⟩ := hr
      have hS : (nsH w s.heap).get? s.heap.objs.size = some (nsO w) := Heap.get?_push_size _ rfl
      have hT : Shared.TypeIs { s with heap := nsH w s.heap } (.ref s.heap.objs.size) "set" := ⟨_, hS, rfl⟩
      have k6 := F.called_set.init.lookup
      have k7 := F.called_set.init.bind (.ref s.heap.objs.size)
      repeat (any_goals (first | assumption | wp_step))
      refine codeAny_mono (codeAny_call_builtin (R := wants (fun r s₂ => r = .none ∧ ∃ h' tk c, s₂ = { s with heap := h', toks := tk } ∧ SetR w h' s.heap.objs.size (fun j => decide (j ∈ ns)) c ∧ c ≤ ns.length ∧ ∀ b o, s.heap.get? b = some o → h'.get? b = some o) E)
        F.called_set.init.plain F.entry_set_init (check_set_init_1 hT ?_)) fun r₂ s₂ hr₂ => ?_
      · obtain ⟨⟨ocls, odict, odata, oslots⟩, hol, rfl, nl, rfl⟩ := hl
        have hol' : (nsH w s.heap).get? l = some { cls := .type "list", dict := odict, data := .seq items nl, slots := oslots } := Heap.get?_push_of_some _ hol
        have k8 := F.sub_list_set
        have k9 := F.sub_list_frozenset
        have k10 : (Value.type "list" == Value.type "dict") = false := rfl
        have hl1 : (nsH w s.heap).IsList l items := ⟨_, hol', rfl, nl, rfl⟩
        unfold Builtin.«set.__init__» noKeywords Builtin.Frozenset.updateFrom
        generalize hPI : pyIter = PI
        wp_walk
        subst hPI
        refine wpAny_pyIter_list hl1 (wpAny_bind (wpAny_runValue ?_))
        have hlS : l < s.heap.objs.size := Heap.lt_size hol
        have hz1 : (nsH w s.heap).objs.size = s.heap.objs.size + 1 := Heap.size_push ..
        have hneI : l ≠ (nsH w s.heap).objs.size := by rw [hz1]; exact Nat.ne_of_lt (Nat.lt_succ_of_lt hlS)
        have hSf : s.heap.objs.size ∉ [(nsH w s.heap).objs.size, l] := by
          rw [hz1]; simp only [List.mem_cons, List.not_mem_nil, or_false, not_or]; exact ⟨Nat.ne_of_lt (Nat.lt_succ_self _), Nat.ne_of_gt hlS⟩
        have hval : ∀ (i : Nat) (v : Value), items[i]? = some v → ∃ k t, ns[i]? = some k ∧ v = .int k t := fun i v hv => by
          have hi : i < ns.length := by rw [← hisz]; exact (Array.getElem?_eq_some_iff.mp hv).1
          obtain ⟨t, e⟩ := PyProof.Rows.IntsAre.int_at hit i v (by rw [Array.getElem?_toList]; exact hv)
          exact ⟨ns[i], t, List.getElem?_eq_getElem hi, by rw [e, List.getD_eq_getElem?_getD, List.getElem?_eq_getElem hi, Option.getD_some]⟩
        refine set_update_ints ((Walks.list (by simp [hh]) _ l hneI items).toS) s.heap.objs.size hSf ns hisz hb hval (items.size - 0) 0 _ rfl (Nat.zero_le _) ⟨⟨_, Heap.get?_push_size _ rfl, rfl, rfl⟩, hl1.push _⟩ ?_ ?_
        · exact ⟨0, Nat.le_refl 0, setR_new_at (Heap.get?_push_of_some _ hS)⟩
        · rintro ⟨h', g2, d', tk', os'⟩ c' hm hc' hS'
          obtain rfl : g2 = s.gens := hm.gens
          obtain rfl : d' = s.drawn := hm.drawn
          obtain rfl : os' = s.os := hm.os
          show wpAny _ _ _ _ _ _
          refine wpAny_pure ?_
          show wpAny _ _ (ret .none) _ _ _
          refine wpAny_pure ⟨rfl, h', tk', c', rfl, hS', by rw [← hisz]; exact hc', fun b o e => ?_⟩
          have hb0 : b < s.heap.objs.size := Heap.lt_size e
          refine hm.heap b o ?_ (Heap.get?_push_of_some _ (Heap.get?_push_of_some _ e))
          rw [hz1]; simp only [List.mem_cons, List.not_mem_nil, or_false, not_or]; exact ⟨Nat.ne_of_lt hb0, Nat.ne_of_lt (Nat.lt_succ_of_lt hb0)⟩
      · cases r₂ with
        | error e => exact hr₂
        | ok fl₂ =>
          cases fl₂ with
          | ret r =>
            obtain ⟨rfl, h', tk, c', rfl, hS', hc', hk'⟩ := hr₂
            repeat (any_goals (first | assumption | wp_step))
            exact h _ _ _ hS' hc' hk'
          | _ => exact hr₂.elim
    | _ => exact hr.elim
end
section
variable {X : Cx}
/-- set(xs), xs a list or a tuple of ints -/
def rSetI (K : PySem.W.Frag) (w : World) : List V → Hp → VK → Prop := fun vs H Q => ∃ (l : Addr) (ns : List Int), vs = [V.ref l] ∧ (SqL K H l (ns.map V.int) ∨ SqT K H l (ns.map V.int)) ∧ ns.length < 1000 ∧
  ∀ a c, H a = none → c ≤ ns.length → Q (.ref a) (upd H a (SetO w a (fun j => decide (j ∈ ns)) c))
theorem cr_setI (hc : X.calm = true) : CallR X (.type "set") (rSetI X.K X.w) := by
  intro pins s σ H vs us Q I r h
  obtain ⟨l, ns, rfl, hl, hb, q⟩ := h
  rw [Vals.ref1 r]
  have hn : H s.heap.objs.size = none := I.hok.fresh (Nat.le_refl _)
  have hs : ns.length + 1 < scanBound := by unfold scanBound; omega
  rcases hl with hl | hl
  · obtain ⟨its, rv, pl, hz⟩ := I.list hl
    refine sim_set_listI ns (I.ok.hd hc) pl.isList (by simpa using ints_of_vals rv) hs fun h' tk c R hcn k => ?_
    exact ⟨.ref s.heap.objs.size, upd H s.heap.objs.size (SetO X.w s.heap.objs.size _ c), I.laid (t' := tk) k (Nat.le_refl _) (setO_new R), rfl, q _ c hn hcn⟩
  · obtain ⟨its, rv, pl, hz⟩ := I.tuple hl
    refine call_set_tupI ns (I.ok.hd hc) pl (by simpa using ints_of_vals rv) hs fun h' tk c R hcn k => ?_
    exact ⟨.ref s.heap.objs.size, upd H s.heap.objs.size (SetO X.w s.heap.objs.size _ c), I.laid (t' := tk) k (Nat.le_refl _) (setO_new R), rfl, q _ c hn hcn⟩
end

/-! ### sorted(set), tuples of ints of whatever lengths -/
theorem sim_perm_lift {α β : Type} {f : α → β} : ∀ {vs ws : List β}, vs.Perm ws → ∀ L : List α, ws = L.map f → ∃ L1 : List α, L1.Perm L ∧ vs = L1.map f := by
  intro vs ws h
  induction h with
  | nil => intro L e; exact ⟨L, .refl _, e⟩
  | cons x _ ih =>
    intro L e
    cases L with
    | nil => cases e
    | cons q L =>
      injection e with e1 e2
      obtain ⟨L1, p, e3⟩ := ih L e2
      exact ⟨q :: L1, p.cons q, by rw [List.map_cons, ← e3, ← e1]⟩
  | swap x y l =>
    intro L e
    cases L with
    | nil => cases e
    | cons q L =>
      cases L with
      | nil => cases e
      | cons r L =>
        injection e with e1 e2
        injection e2 with e2 e3
        exact ⟨r :: q :: L, List.Perm.swap q r L, by rw [e1, e2, e3]; rfl⟩
  | trans _ _ ih1 ih2 =>
    intro L e
    obtain ⟨L1, p1, e1⟩ := ih2 L e
    obtain ⟨L2, p2, e2⟩ := ih1 L1 e1
    exact ⟨L2, p2.trans p1, e2⟩
theorem each_refs : ∀ L : List (Addr × List Int), PySem.W.EachIs (fun (v : Value) (q : Addr × List Int) => v = Value.ref q.1) (L.map fun q => Value.ref q.1) L
  | [] => .nil
  | _ :: L => .cons rfl (each_refs L)
theorem refs_each : ∀ {vs : List Value} {L : List (Addr × List Int)}, PySem.W.EachIs (fun (v : Value) (q : Addr × List Int) => v = Value.ref q.1) vs L → vs = L.map fun q => Value.ref q.1
  | _, _, .nil => rfl
  | _, _, .cons h t => by rw [h, refs_each t]; rfl
theorem reads_ints {h : Heap} : ∀ {k : List Int} {vs : List Value}, IntsAre vs k → ReadsAll h vs (k.map .int) []
  | _, _, .nil => .nil
  | _, _, .cons n t r => by
    have z : ReadsAll h _ (PyData.int n :: _) ([] ++ []) := .cons (.int n t) (reads_ints r)
    exact z
theorem reads_tup {P : Program} {w : World} {h : Heap} {k : List Int} {b : Addr} (x : IsT P w h k b) : Reads h (.ref b) (.tuple (k.map .int)) [] := by
  obtain ⟨o, items, n, ho, hc, hd, hi⟩ := x
  exact .tuple ho hc hd (reads_ints (ints_of_items hi))
def tupLe (q r : Addr × List Int) : Bool := decide (q.2 ≤ r.2)
theorem dataLe_tups : PySem.W.dataLe false (fun q : Addr × List Int => PyData.tuple (q.2.map .int)) = tupLe := by
  funext p q
  show (!PySem.W.dataLt (.tuple (q.2.map .int)) (.tuple (p.2.map .int))) = decide (p.2 ≤ q.2)
  rw [PySem.W.dataLt_tuple]
  show (!PySem.W.rowLt (q.2.map .int) (p.2.map .int)) = _
  rw [PySem.W.dataLt_ints]
  by_cases h : q.2 < p.2
  · have h' : ¬ p.2 ≤ q.2 := fun r => List.not_lt.mpr r h
    simp [h, h']
  · have h' : p.2 ≤ q.2 := List.not_lt.mp h
    simp [h, h']
theorem tupLe_sorted (L : List (Addr × List Int)) : (L.mergeSort tupLe).Pairwise (fun q r => q.2 ≤ r.2) := by
  have h := List.pairwise_mergeSort (le := tupLe) (fun a b c h1 h2 => by
    unfold tupLe at *
    exact decide_eq_true (List.le_trans (of_decide_eq_true h1) (of_decide_eq_true h2))) (fun a b => by
    unfold tupLe
    rcases List.le_total a.2 b.2 with z | z <;> simp [z]) L
  exact h.imp fun {a b} hab => of_decide_eq_true hab
section
variable {P : Program} {w : World} {A : Around} {E : Value → Shared → Prop} {s : Shared}
/-- xs.sort() -/
theorem sim_sortU {a : Addr} {n : Nat} {L : List (Addr × List Int)} {Q : Value → Shared → Prop} (ho : s.heap.get? a = some (seqObj "list" (L.map fun q => Value.ref q.1).toArray n)) (ht : ∀ q ∈ L, IsT P w s.heap q.2 q.1) (h64 : L.length < 64) (hu : A.units + 9 < cLine)
    (hne : (∀ q ∈ L, q.2 ≠ []) ∨ L.length ≤ 1) (h : ∀ (out : Array Value) (L' : List (Addr × List Int)), out.toList = (L'.map fun q => Value.ref q.1) → L'.Perm L → L'.Pairwise (fun q r => q.2 ≤ r.2) → Q .none { s with heap := sortedHeap s.heap a (L.map fun q => Value.ref q.1) out }) :
    wpAny (model P w) A (call (.builtin "list.sort") [.ref a]) Q E s := by
  by_cases h1 : L.length ≤ 1
  · refine wpAny_call_entry slot_list_sort ⟨_, ho, rfl⟩ entry_list_sort (SK.plain_sort (r := fun _ => 0) ho (by rw [List.length_map]; exact h64) (fun h2 Q hQ => ?_) fun ps out e1 e2 e3 => ?_) (args_list_sort _)
    · rw [List.length_map] at h2; omega
    · obtain ⟨p, -⟩ := TS.out_rank (r := fun _ => 0) e1 e2 e3
      obtain ⟨L', pL, e'⟩ := sim_perm_lift p L rfl
      refine ⟨_, rfl, h out L' e' pL ?_⟩
      have hl : L'.length ≤ 1 := by rw [pL.length_eq]; exact h1
      cases L' with
      | nil => exact List.Pairwise.nil
      | cons q L' =>
        cases L' with
        | nil => exact List.pairwise_singleton _ _
        | cons _ _ => simp at hl
  · have hn := hne.resolve_right h1
    have er : PySem.W.EachIs (fun v (q : Addr × List Int) => ∃ as, Reads s.heap v (PyData.tuple (q.2.map .int)) as ∧ a ∉ as) (L.map fun q => Value.ref q.1) L := by
      have z : ∀ M : List (Addr × List Int), (∀ q ∈ M, IsT P w s.heap q.2 q.1) → PySem.W.EachIs (fun v (q : Addr × List Int) => ∃ as, Reads s.heap v (PyData.tuple (q.2.map .int)) as ∧ a ∉ as) (M.map fun q => Value.ref q.1) M := by
        intro M
        induction M with
        | nil => intro _; exact .nil
        | cons q M ih => intro hm; exact .cons ⟨[], reads_tup (hm q List.mem_cons_self), by simp⟩ (ih fun r hr => hm r (List.mem_cons_of_mem _ hr))
      exact z L ht
    refine PySem.W.list_sort_data (enc := fun q : Addr × List Int => PyData.tuple (q.2.map .int)) ho (each_refs L) er (PySem.W.AllAlike.of fun b b' => by
      show PySem.W.alike (.tuple _) (.tuple _) = true
      rw [PySem.W.alike]
      exact PySem.W.alike_ints _ _) ?_ (by rw [sizeLine_eq]; omega) (fun b _ => ?_) fun out hl he => ?_
    · refine .inl fun d hd => ?_
      obtain ⟨q, hq, rfl⟩ := List.mem_map.mp hd
      cases e : q.2 with
      | nil => exact absurd e (hn q hq)
      | cons x r => exact ⟨.int x, r.map .int, rfl⟩
    · have z : (PyData.tuple (b.2.map .int)).depth ≤ 1 := by
        rw [PyData.depth, PySem.W.depth_ints]; omega
      omega
    · rw [dataLe_tups] at he
      exact h out.toArray _ (by simpa using refs_each he) (List.mergeSort_perm _ _) (tupLe_sorted L)
theorem sim_sorted_setU {a : Addr} {L : List (Addr × List Int)} {es : Array (Int × Value)} {ep : Nat} {t : SetTable} {Q : Value → Shared → Prop} (R : SetTR P w s.heap a L es ep t) (hh : A.handled = none) (hu : A.units + 19 < cLine) (hne : (∀ q ∈ L, q.2 ≠ []) ∨ L.length ≤ 1)
    (hQ : ∀ (s' : Shared) (p : Addr) (out : Array Value) (c : Nat) (L' : List (Addr × List Int)), (∀ b o, s.heap.get? b = some o → s'.heap.get? b = some o) → s'.gens = s.gens → s'.os = s.os → s.heap.objs.size ≤ p → s'.heap.get? p = some (seqObj "list" out c) → (out.toList = L'.map fun q => Value.ref q.1) → L'.Perm L → L'.Pairwise (fun q r => q.2 ≤ r.2) → Q (.ref p) s') :
    wpAny (model P w) A (call (.builtin "sorted") [.ref a]) Q E s := by
  have ⟨o, ho, hex, hd⟩ := R.ob
  refine Calls.call_function_entry kind_sorted plain_sorted entry_sorted (args_sorted1 _) ?_
  unfold Builtin.«sorted»
  refine wpAny_bind (m := checkCount "sorted" 1 1 _) (wpAny_pure (wpAny_bind ?_))
  refine collect_set (A := A.in1) hh ⟨o, ho, hex.1, hd⟩ R.fits (by have := R.size; have := R.few; unfold scanBound; omega) R.tab.ris R.led fun s1 vs k1 hz g1 o1 pm => ?_
  have hes : es.toList.map (·.2) = L.map fun q => Value.ref q.1 := by
    rw [R.rows, rowsOf, List.map_map]; rfl
  obtain ⟨L1, p1, rfl⟩ := sim_perm_lift pm L hes
  have f1 : L1.length < 64 := by rw [p1.length_eq]; exact R.few
  refine wpAny_bind (wpAny_newList ?_ (by rw [sizeLine_eq, List.length_map]; omega))
  have hoL : (s1.heap.push (seqObj "list" (L1.map fun q => Value.ref q.1).toArray 0)).get? s1.heap.objs.size = some (seqObj "list" (L1.map fun q => Value.ref q.1).toArray 0) := Heap.get?_push_size _ rfl
  refine wpAny_bind (wpAny_holding (sim_sortU (s := { s1 with heap := s1.heap.push _ }) (A := A.in1) hoL (fun q hq => isT_keep (R.tup q (p1.mem_iff.mp hq)) fun b u e => Heap.get?_push_of_some _ (k1 b u e)) f1 (by simp; omega) (hne.imp (fun z q hq => z q (p1.mem_iff.mp hq)) fun z => by rw [p1.length_eq]; exact z) fun out L' e' pL pw => ?_))
  obtain ⟨c, hc⟩ := sortedHeap_at (vs := L1.map fun q => Value.ref q.1) (out := out) hoL
  refine wpAny_pure ⟨_, rfl, hQ _ s1.heap.objs.size out c L' (fun b u e => ?_) g1 o1 hz hc e' (pL.trans p1) pw⟩
  have q := k1 b u e
  have hlt := Heap.lt_size q
  show (sortedHeap (s1.heap.push _) s1.heap.objs.size _ out).get? b = some u
  rw [sortedHeap_old (Nat.ne_of_lt hlt) (by rw [size_push']; exact Nat.lt_succ_of_lt hlt)]
  exact Heap.get?_push_of_some _ q
end
section
variable {X : Cx}
def rSortedTU (K : PySem.W.Frag) (P : Program) (w : World) : List V → Hp → VK → Prop := fun vs H Q => ∃ (a : Addr) (L : List (Addr × List Int)), vs = [V.ref a] ∧ H a = some (SetTO P w a L) ∧ (∀ p ∈ L, SqT K H p.1 (p.2.map V.int)) ∧ ((∀ q ∈ L, q.2 ≠ []) ∨ L.length ≤ 1) ∧
  ∀ (L' : List (Addr × List Int)) (p : Addr), L'.Perm L → (L'.map (·.2)).Nodup → L'.length < 64 → L'.Pairwise (fun q r => q.2 ≤ r.2) → H p = none → Q (.ref p) (upd H p (.lst (L'.map fun q => V.ref q.1)))
theorem cr_sortedTU (hc : X.calm = true) (hu : X.A.units + 64 < cLine) : CallR X (.builtin "sorted") (rSortedTU X.K X.prog X.w) := by
  intro pins s σ H vs us Q I r h
  obtain ⟨a, L, rfl, ha, hk, hne, q⟩ := h
  have R0 : SetT0 X.prog X.w s.heap a L := (I.hok a _ ha).1
  obtain ⟨es, ep, t, R⟩ := R0.full fun p hp => I.isT (hk p hp)
  rw [Vals.ref1 r]
  refine sim_sorted_setU R (I.ok.hd hc) (by omega) hne fun s' p out c L' k g o hp hg hout pm pw => ?_
  have hfew : L'.length < 64 := by rw [pm.length_eq]; exact R.few
  have hn : H p = none := I.hok.fresh hp
  have J : Inv X pins σ (upd H p (.lst (L'.map fun q => V.ref q.1))) { s with heap := s'.heap, gens := s'.gens, drawn := s'.drawn, toks := s'.toks } :=
    I.call (ch := []) (Un.laid k hp hn) (I.hok.laid k hp ⟨by rw [List.length_map, sizeLine_eq]; omega, out.toList, c, by rw [hout]; exact vals_of_refs L', hg⟩) (by rw [g]; exact I.bare) (fun _ z => nomatch z)
  have e : s' = { s with heap := s'.heap, gens := s'.gens, drawn := s'.drawn, toks := s'.toks } := by
    cases s'; cases s; cases o; rfl
  rw [e]
  exact ⟨.ref p, _, J, rfl, q L' p pm ((pm.map (·.2)).nodup_iff.mpr R.nd) hfew pw hn⟩
end
end L2

set_option autoImplicit false
/-! Sim, part 11: sorted(set(..)) as a function. -/
namespace Sim
open PySem L2 PyProof.Rows
def uniq {α : Type} [DecidableEq α] : List α → List α
  | [] => []
  | x :: xs => if x ∈ xs then uniq xs else x :: uniq xs
section
variable {α : Type} [DecidableEq α]
theorem mem_uniq {a : α} : ∀ {xs : List α}, a ∈ uniq xs ↔ a ∈ xs
  | [] => Iff.rfl
  | x :: xs => by
    unfold uniq
    by_cases h : x ∈ xs
    · rw [if_pos h, mem_uniq, List.mem_cons]
      exact ⟨.inr, fun z => z.elim (fun e => e ▸ h) id⟩
    · rw [if_neg h, List.mem_cons, List.mem_cons, mem_uniq]
theorem uniq_nodup : ∀ xs : List α, (uniq xs).Nodup
  | [] => List.nodup_nil
  | x :: xs => by
    unfold uniq
    by_cases h : x ∈ xs
    · rw [if_pos h]; exact uniq_nodup xs
    · rw [if_neg h]; exact List.nodup_cons.mpr ⟨fun z => h (mem_uniq.mp z), uniq_nodup xs⟩
theorem uniq_perm {xs ys : List α} (hn : ys.Nodup) (h : ∀ a, a ∈ ys ↔ a ∈ xs) : ys.Perm (uniq xs) :=
  (List.perm_ext_iff_of_nodup hn (uniq_nodup xs)).mpr fun a => (h a).trans mem_uniq.symm
end
def setI (is : List Int) : List Int := sortI (uniq is)
def leT (a b : List Int) : Bool := decide (a ≤ b)
def sortT (ks : List (List Int)) : List (List Int) := isort leT ks
def setT (ks : List (List Int)) : List (List Int) := sortT (uniq ks)
theorem sortT_perm (ks : List (List Int)) : (sortT ks).Perm ks := isort_perm ks
theorem sortT_sorted (ks : List (List Int)) : (sortT ks).Pairwise (· ≤ ·) :=
  (isort_sorted (le := leT) (fun a b c h1 h2 => by
    unfold leT at *
    exact decide_eq_true (List.le_trans (of_decide_eq_true h1) (of_decide_eq_true h2))) (fun a b => by
    unfold leT
    rcases List.le_total a b with z | z <;> simp [z]) ks).imp fun {a b} hab => of_decide_eq_true hab
theorem setT_is {ks l : List (List Int)} (hn : l.Nodup) (h : ∀ a, a ∈ l ↔ a ∈ ks) (hs : l.Pairwise (· ≤ ·)) : l = setT ks :=
  ((uniq_perm hn h).trans (sortT_perm _).symm).eq_of_pairwise (fun a b _ _ x y => List.le_antisymm x y) hs (sortT_sorted _)
theorem setI_is {ks l : List Int} (hn : l.Nodup) (h : ∀ a, a ∈ l ↔ a ∈ ks) (hs : l.Pairwise (· ≤ ·)) : l = setI ks := sorted_is (uniq_perm hn h) hs
theorem mem_setI {a : Int} {is : List Int} : a ∈ setI is ↔ a ∈ is := (sortI_perm _).mem_iff.trans mem_uniq
theorem setI_nodup (is : List Int) : (setI is).Nodup := (sortI_perm _).nodup_iff.mpr (uniq_nodup _)
theorem setI_sorted (is : List Int) : (setI is).Pairwise (· < ·) := lt_of_le_nodup _ (sortI_sorted _) (setI_nodup _)
theorem mem_setT {a : List Int} {is : List (List Int)} : a ∈ setT is ↔ a ∈ is := (sortT_perm _).mem_iff.trans mem_uniq
theorem setT_nodup (is : List (List Int)) : (setT is).Nodup := (sortT_perm _).nodup_iff.mpr (uniq_nodup _)
theorem setT_sorted (is : List (List Int)) : (setT is).Pairwise (· ≤ ·) := sortT_sorted _
def tupI (k : List Int) : D := .tup (k.map D.int)
def unTups : List D → Option (List (List Int))
  | [] => some []
  | .tup xs :: ds => match unInts xs, unTups ds with
    | some k, some ks => some (k :: ks)
    | _, _ => none
  | _ => none
theorem unTups_some : ∀ {ds : List D} {ks : List (List Int)}, unTups ds = some ks → ds = ks.map tupI
  | [], ks, h => by cases h; rfl
  | d :: ds, ks, h => by
    cases d with
    | tup xs =>
      unfold unTups at h
      cases h1 : unInts xs with
      | none => simp only [h1] at h; cases h
      | some k =>
        cases h2 : unTups ds with
        | none => simp only [h1, h2] at h; cases h
        | some ks' =>
          simp only [h1, h2] at h
          cases h
          rw [unTups_some h2, unInts_some h1]; rfl
    | _ => simp [unTups] at h
@[simp] theorem unTups_map : ∀ ks : List (List Int), unTups (ks.map tupI) = some ks
  | [] => rfl
  | k :: ks => by
    show unTups (D.tup (k.map D.int) :: ks.map tupI) = _
    rw [unTups, unInts_map, unTups_map ks]

section
variable {K : PySem.W.Frag} {Γ : Clss} {E : XK} {ρ ρ1 ρ2 ρ' : List Addr} {H H1 H2 H' : Hp} {μ μ1 : Store} {σ : L2.St} {δ : Dn}
variable {ta tb tc : TE} {Fa Fb Fc : EG} {La Lb : AG}
/-- r, of a list or of a tuple: the new list that g makes of its items -/
def CaQQ (K : PySem.W.Frag) (Γ : Clss) (E : XK) (r : List V → Hp → VK → Prop) (g : List D → Mn (List D)) : Prop :=
  ∀ (H₀ : Hp) (ρ₀ ρ : List Addr) (μ : Store) (H : Hp) (p : Addr) (xs : List V) (ds : List D) (Q : VK), Ext ρ₀ H₀ ρ H → SR K Γ ρ μ H → (SqL K H p xs ∨ SqT K H p xs) → xs.length ≤ sizeLine → RVs K ρ H xs ds → Post K Γ E (RelL K H₀) ρ H (g ds μ) Q → r [.ref p] H Q
theorem CaQQ.l {r : List V → Hp → VK → Prop} {g : List D → Mn (List D)} (h : CaQQ K Γ E r g) : CaLL K Γ E r g := fun H₀ ρ₀ ρ μ H p xs ds Q x S hx => h H₀ ρ₀ ρ μ H p xs ds Q x S (.inl hx)
def itemsQ (d : D) : Mn (List D) := fun μ => match seqOf d μ with
  | some (_, es) => .ok es μ
  | none => .stuck
def cQG (g : List D → Mn (List D)) (a : EG) : AG := fun δ => bnd (a δ) fun d => bnd (itemsQ d) g
theorem sim_cQ {r : List V → Hp → VK → Prop} {g : List D → Mn (List D)} (hr : CaQQ K Γ E r g) (ha : SimE K Γ E ta Fa) : SimL K Γ E (tCB r (tCons ta tNil)) (cQG g Fa) := fun ρ μ δ σ H S e Q hp => by
  refine ha.go S e hp fun v d ρ1 μ1 H1 x1 S1 r1 hp1 => ?_
  unfold bnd itemsQ at hp1
  cases h : seqOf d μ1 with
  | none => simp only [h] at hp1; exact hp1.elim
  | some p =>
    obtain ⟨t, es⟩ := p
    obtain ⟨a, xs, rfl, hl, rr, hk⟩ := r1.seq S1 h
    simp only [h] at hp1
    exact hr H ρ ρ1 μ1 H1 a xs es Q x1 S1 (hk.elim (fun z => .inr z.2) fun z => .inl z.2) hl rr hp1
/-- sorted(set(xs)), xs of ints -/
def setIC (ds : List D) : Mn (List D) := match unInts ds with
  | some is => if is.length < 64 then ret ((setI is).map D.int) else stk
  | none => stk
def rSsI (K : PySem.W.Frag) (w : World) : List V → Hp → VK → Prop := fun vs H Q => rSetI K w vs H fun a H1 => rSortedSet w [a] H1 Q
theorem q_setI {w : World} : CaQQ K Γ E (rSsI K w) setIC := fun H₀ ρ₀ ρ μ H p xs ds Q x S hx hl r hp => by
  unfold setIC at hp
  cases h : unInts ds with
  | none => simp only [h] at hp; exact hp.elim
  | some is =>
    simp only [h] at hp
    by_cases h64 : is.length < 64
    · simp only [if_pos h64] at hp
      have e := unInts_some h
      subst e
      refine ⟨p, is, rfl, by rw [← r.ints]; exact hx, by omega, fun a c hn hc => ?_⟩
      have x1 : Ext ρ H ρ (upd H a (SetO w a (fun j => decide (j ∈ is)) c)) := Ext.new hn
      refine ⟨a, _, c, rfl, upd_same, by omega, fun ns l so hm hlen hnl => ?_⟩
      have e : ns = setI is := setI_is (so.imp fun {a b} z => by omega) (fun a => (hm a).trans (by simp)) (so.imp fun {a b} z => by omega)
      subst e
      have x2 := x1.trans (Ext.new (o := .lst ((setI is).map V.int)) hnl)
      refine hp (.ref l) ρ _ x2 ((S.new hn).new hnl) ⟨l, _, rfl, (x.trans x1).there l hnl, (S.new hn).fresh hnl, upd_same, by rw [List.length_map, sizeLine_eq]; omega, RVs.ofInts _⟩
    · simp only [if_neg h64] at hp; exact hp.elim
theorem sim_ssI {w : World} (ha : SimE K Γ E ta Fa) : SimL K Γ E (tCB (rSortedSet w) (tCons (tCB (rSetI K w) (tCons ta tNil)) tNil)) (cQG setIC Fa) := by
  have z := sim_cQ (q_setI (w := w)) ha
  exact z
theorem sim_ssIL {w : World} (ha : SimL K Γ E ta La) : SimL K Γ E (tCB (rSortedSet w) (tCons (tCB (rSetI K w) (tCons ta tNil)) tNil)) (cLLG setIC La) := by
  have z := sim_cLL (q_setI (w := w)).l ha
  exact z
/-- the tuples of a list, with their places -/
theorem RVs.tups : ∀ {xs : List V} {ks : List (List Int)}, RVs K ρ H xs (ks.map tupI) → ∃ as : List (Addr × List Int), xs = (as.map fun p => V.ref p.1) ∧ as.map (·.2) = ks ∧ ∀ p ∈ as, SqT K H p.1 (p.2.map V.int) ∧ p.2.length ≤ sizeLine
  | _, [], .nil => ⟨[], rfl, rfl, fun _ z => nomatch z⟩
  | _, k :: ks, .cons h t => by
    obtain ⟨as, e1, e2, e3⟩ := RVs.tups t
    cases h with
    | @tup a ys _ h1 l1 t1 =>
      have e := t1.ints
      subst e
      refine ⟨(a, k) :: as, by rw [e1]; rfl, by rw [List.map_cons, e2], fun p hp => ?_⟩
      rcases List.mem_cons.mp hp with rfl | hp
      · exact ⟨h1, by simpa using l1⟩
      · exact e3 p hp
theorem RVs.ofTups : ∀ {L : List (Addr × List Int)}, (∀ p ∈ L, SqT K H p.1 (p.2.map V.int) ∧ p.2.length ≤ sizeLine) → RVs K ρ H (L.map fun p => V.ref p.1) ((L.map (·.2)).map tupI)
  | [], _ => .nil
  | p :: L, h => .cons (.tup (h p List.mem_cons_self).1 (by rw [List.length_map]; exact (h p List.mem_cons_self).2) (RVs.ofInts _)) (RVs.ofTups fun q hq => h q (List.mem_cons_of_mem _ hq))
/-- sorted(set(xs)), xs of tuples of ints -/
def setTC (ds : List D) : Mn (List D) := match unTups ds with
  | some ks => if ks.length < 64 ∧ ((∀ k ∈ ks, k ≠ []) ∨ (uniq ks).length ≤ 1) then ret ((setT ks).map tupI) else stk
  | none => stk
/-- set(xs), xs a list of tuples of ints -/
def rSetT (K : PySem.W.Frag) (P : Program) (w : World) : List V → Hp → VK → Prop := fun xs H Q => ∃ (l : Addr) (ks : List (Addr × List Int)), xs = [V.ref l] ∧ SqL K H l (ks.map fun p => V.ref p.1) ∧ (∀ p ∈ ks, SqT K H p.1 (p.2.map V.int)) ∧ ks.length < 64 ∧
  ∀ a L, H a = none → (L.map (·.2)).Nodup → (∀ p ∈ L, p ∈ ks) → (∀ p ∈ ks, p.2 ∈ L.map (·.2)) → Q (.ref a) (upd H a (SetTO P w a L))
theorem cr_setT {X : Cx} (hc : X.calm = true) (hu : X.A.units + 64 < cLine) : CallR X (.type "set") (rSetT X.K X.prog X.w) := by
  intro pins s σ H xs us Q I r h
  obtain ⟨l, ks, rfl, hl, hk, hf, q⟩ := h
  rw [Vals.ref1 r]
  obtain ⟨its, rv, pl, hz⟩ := I.list hl
  have hn : H s.heap.objs.size = none := I.hok.fresh (Nat.le_refl _)
  refine call_set_tups (P := X.prog) (w := X.w) ks (I.ok.hd hc) pl.isList (by simpa using refs_of_vals rv) (fun p hp => I.isT (hk p hp)) hf (by omega) fun h' tk L es ep t R g k => ?_
  exact ⟨.ref s.heap.objs.size, upd H s.heap.objs.size (SetTO X.prog X.w s.heap.objs.size L), I.laid (t' := tk) k (Nat.le_refl _) (setTO_new R.t0), rfl,
    q _ L hn R.nd (fun p hp => List.mem_of_mem_take (g.sub p hp)) fun p hp => g.all p (by rw [List.take_length]; exact hp)⟩
theorem l_setT {P : Program} {w : World} : CaLL K Γ E (fun vs H Q => rSetT K P w vs H fun a H1 => rSortedTU K P w [a] H1 Q) setTC := fun H₀ ρ₀ ρ μ H p xs ds Q x S hx hl r hp => by
  unfold setTC at hp
  cases h : unTups ds with
  | none => simp only [h] at hp; exact hp.elim
  | some ks =>
    simp only [h] at hp
    by_cases hc : ks.length < 64 ∧ ((∀ k ∈ ks, k ≠ []) ∨ (uniq ks).length ≤ 1)
    · simp only [if_pos hc] at hp
      have e := unTups_some h
      subst e
      obtain ⟨as, rfl, e2, has⟩ := r.tups
      have hlen : as.length = ks.length := by rw [← e2, List.length_map]
      refine ⟨p, as, rfl, hx, fun q hq => (has q hq).1, by rw [hlen]; exact hc.1, fun a L hn nd sub all => ?_⟩
      have x1 : Ext ρ H ρ (upd H a (SetTO P w a L)) := Ext.new hn
      have mem : ∀ k, k ∈ L.map (·.2) ↔ k ∈ ks := fun k => by
        rw [← e2]
        constructor
        · intro hk
          obtain ⟨q, hq, rfl⟩ := List.mem_map.mp hk
          exact List.mem_map.mpr ⟨q, sub q hq, rfl⟩
        · intro hk
          obtain ⟨q, hq, rfl⟩ := List.mem_map.mp hk
          exact all q hq
      refine ⟨a, L, rfl, upd_same, fun q hq => x1.sqT (has q (sub q hq)).1, ?_, fun L' l pm nd' h64 so hnl => ?_⟩
      · rcases hc.2 with z | z
        · exact .inl fun q hq => z q.2 ((mem _).mp (List.mem_map.mpr ⟨q, hq, rfl⟩))
        · right
          have q := (uniq_perm nd mem).length_eq
          rw [List.length_map] at q
          omega
      · have e : L'.map (·.2) = setT ks := setT_is nd' (fun k => ((pm.map (·.2)).mem_iff).trans (mem k)) (List.pairwise_map.mpr so)
        have x2 := x1.trans (Ext.new (o := .lst (L'.map fun q => V.ref q.1)) hnl)
        refine hp (.ref l) ρ _ x2 ((S.new hn).new hnl) ⟨l, _, rfl, (x.trans x1).there l hnl, (S.new hn).fresh hnl, upd_same, by rw [List.length_map, sizeLine_eq]; omega, ?_⟩
        rw [← e]
        exact RVs.ofTups fun q hq => ⟨x2.sqT (has q (sub q (pm.mem_iff.mp hq))).1, (has q (sub q (pm.mem_iff.mp hq))).2⟩
    · simp only [if_neg hc] at hp; exact hp.elim
theorem sim_ssT {P : Program} {w : World} (ha : SimL K Γ E ta La) : SimL K Γ E (tCB (rSortedTU K P w) (tCons (tCB (rSetT K P w) (tCons ta tNil)) tNil)) (cLLG setTC La) := by
  have z := sim_cLL (l_setT (P := P) (w := w)) ha
  exact z
theorem sim_ssTV {P : Program} {w : World} (ha : SimE K Γ E ta Fa) : SimL K Γ E (tCB (rSortedTU K P w) (tCons (tCB (rSetT K P w) (tCons ta tNil)) tNil)) (cVLG setTC Fa) := by
  have z := sim_cVL (l_setT (P := P) (w := w)) ha
  exact z
end
end Sim

set_option autoImplicit false
/-! Sim, part 12: odds and ends. -/
namespace Sim
open PySem L2 PyProof.Rows
theorem hu65 {k : Nat} {A : Around} (h : Room k A) : A.units + 65 < cLine := by have := h.un; omega
theorem hu64 {k : Nat} {A : Around} (h : Room k A) : A.units + 64 < cLine := by have := h.un; omega
section
variable {K : PySem.W.Frag} {Γ : Clss} {E : XK} {ρ ρ1 ρ2 ρ' : List Addr} {H H1 H2 H' : Hp} {μ μ1 : Store} {σ : L2.St} {δ : Dn}
variable {ta tb tc : TE} {Fa Fb Fc : EG} {La Lb : AG}
/-- a, b, c = x, y, z -/
def par3G (i j l : Nat) (a : AG) : SG := fun δ => thenS (a δ) fun ds μ => match ds with
  | [x, y, z] => .nx (((δ.set i (some x)).set j (some y)).set l (some z)) μ
  | _ => .stuck
theorem ss_par3 {i j l : Nat} {t : TA} (ha : SimA K Γ E t La) : SimS K Γ E (tPar3 i j l t) (par3G i j l La) := fun ρ μ δ σ H S e T hp => by
  refine ha.goS S e hp fun vs ds ρ1 μ1 H1 x1 S1 r1 hp1 => ?_
  cases r1 with
  | nil => exact hp1.elim
  | @cons v vs d ds r rs => cases rs with
    | nil => exact hp1.elim
    | @cons w ws c cs r' rs => cases rs with
      | nil => exact hp1.elim
      | @cons u us b bs r'' rs => cases rs with
        | nil => exact ⟨v, w, u, rfl, hp1 _ ρ1 H1 Ext.refl S1 ((((e.ext x1).set r).set r').set r'')⟩
        | cons _ _ => exact hp1.elim
/-- list(range(..)), tuple(range(..)) -/
def rgD (a b : Int) : List D := (List.range (b - a).toNat).map fun i => .int (a + (i : Nat))
theorem rgV_rv (a b : Int) : RVs K ρ H (rgV a b) (rgD a b) := by
  unfold rgV rgD
  have z : ∀ l : List Nat, RVs K ρ H (l.map fun i => V.int (a + (i : Nat))) (l.map fun i => D.int (a + (i : Nat))) := by
    intro l
    induction l with
    | nil => exact .nil
    | cons i l ih => exact .cons (.int _) ih
  exact z _
instance (a b : Int) : Decidable (RgOk a b) := by unfold RgOk; infer_instance
def SimR (K : PySem.W.Frag) (Γ : Clss) (E : XK) (t : L2.St → Hp → (Int → Int → Hp → Prop) → Prop) (F : Dn → Mn (Int × Int)) : Prop :=
  ∀ (ρ : List Addr) (μ : Store) (δ : Dn) (σ : L2.St) (H : Hp), SR K Γ ρ μ H → ER K ρ H σ δ → ∀ Q : Int → Int → Hp → Prop, Post K Γ E (fun _ _ (b : Int × Int) (a : Int × Int) => b = a) ρ H (F δ μ) (fun p H => Q p.1 p.2 H) → t σ H Q
def rg1G (a : EG) : Dn → Mn (Int × Int) := fun δ => bnd (a δ) fun d => match d with
  | .int n => ret (0, n)
  | _ => stk
def rg2G (a b : EG) : Dn → Mn (Int × Int) := fun δ => bnd (a δ) fun d => bnd (b δ) fun c => match d, c with
  | .int i, .int j => ret (i, j)
  | _, _ => stk
theorem sr_rg1 (ha : SimE K Γ E ta Fa) : SimR K Γ E (tRg1 ta) (rg1G Fa) := fun ρ μ δ σ H S e Q hp => by
  refine ha.go S e hp fun v d ρ1 μ1 H1 x1 S1 r1 hp1 => ?_
  cases r1 with
  | int n => exact ⟨n, rfl, hp1 (0, n) ρ1 H1 Ext.refl S1 rfl⟩
  | _ => exact hp1.elim
theorem sr_rg2 (ha : SimE K Γ E ta Fa) (hb : SimE K Γ E tb Fb) : SimR K Γ E (tRg2 ta tb) (rg2G Fa Fb) := fun ρ μ δ σ H S e Q hp => by
  refine ha.go S e hp fun v d ρ1 μ1 H1 x1 S1 r1 hp1 => ?_
  refine hb.go S1 (e.ext x1) hp1 fun w c ρ2 μ2 H2 x2 S2 r2 hp2 => ?_
  cases r1 with
  | int i => cases r2 with
    | int j => exact ⟨i, j, rfl, rfl, hp2 (i, j) ρ2 H2 Ext.refl S2 rfl⟩
    | _ => exact hp2.elim
  | _ => cases r2 <;> exact hp2.elim
def lstRgG (r : Dn → Mn (Int × Int)) : AG := fun δ => bnd (r δ) fun p => if RgOk p.1 p.2 then ret (rgD p.1 p.2) else stk
def tupRgG (r : Dn → Mn (Int × Int)) : EG := fun δ => bnd (r δ) fun p => if RgOk p.1 p.2 then ret (.tup (rgD p.1 p.2)) else stk
theorem rg_len {a b : Int} (h : RgOk a b) : (rgV a b).length ≤ sizeLine := by
  rw [rgV_length, sizeLine_eq]
  have := h.2.2.2.2
  omega
theorem sim_lstRg {t : L2.St → Hp → (Int → Int → Hp → Prop) → Prop} {r : Dn → Mn (Int × Int)} (hr : SimR K Γ E t r) : SimL K Γ E (tLstRg t) (lstRgG r) := fun ρ μ δ σ H S e Q hp => by
  have key := Sim.go (T := fun P : Int × Int → Hp → Prop => t σ H (fun a b H => P (a, b) H)) (fun P hP => hr ρ μ δ σ H S e (fun a b H => P (a, b) H) hP) hp (P := fun p H1 => RgOk p.1 p.2 ∧ ∀ q, H1 q = none → Q (.ref q) (upd H1 q (.lst (rgV p.1 p.2))))
  refine key fun p q ρ1 μ1 H1 x1 S1 e1 hp1 => ?_
  cases e1
  by_cases h : RgOk p.1 p.2
  · rw [if_pos h] at hp1
    refine ⟨h, fun l hn => ?_⟩
    have x2 : Ext ρ1 H1 ρ1 (upd H1 l (.lst (rgV p.1 p.2))) := Ext.new hn
    exact hp1 _ ρ1 _ x2 (S1.new hn) ⟨l, _, rfl, x1.there l hn, S1.fresh hn, upd_same, rg_len h, rgV_rv _ _⟩
  · rw [if_neg h] at hp1; exact hp1.elim
theorem sim_tupRg {t : L2.St → Hp → (Int → Int → Hp → Prop) → Prop} {r : Dn → Mn (Int × Int)} (hr : SimR K Γ E t r) : SimE K Γ E (tTupRg t) (tupRgG r) := fun ρ μ δ σ H S e Q hp => by
  have key := Sim.go (T := fun P : Int × Int → Hp → Prop => t σ H (fun a b H => P (a, b) H)) (fun P hP => hr ρ μ δ σ H S e (fun a b H => P (a, b) H) hP) hp (P := fun p H1 => RgOk p.1 p.2 ∧ ∀ q, H1 q = none → Q (.ref q) (upd H1 q (.tup (rgV p.1 p.2))))
  refine key fun p q ρ1 μ1 H1 x1 S1 e1 hp1 => ?_
  cases e1
  by_cases h : RgOk p.1 p.2
  · rw [if_pos h] at hp1
    refine ⟨h, fun l hn => ?_⟩
    have x2 : Ext ρ1 H1 ρ1 (upd H1 l (.tup (rgV p.1 p.2))) := Ext.new hn
    exact hp1 _ ρ1 _ x2 (S1.new hn) (.tup (.inl (.inl upd_same)) (rg_len h) (rgV_rv _ _))
  · rw [if_neg h] at hp1; exact hp1.elim
end
end Sim

set_option autoImplicit false
/-! Plain, part 1: how functions of the store are worked out. -/
namespace Sim
open PySem L2
section
variable {α β : Type} {μ μ1 μ2 : Store} {δ : Dn}
theorem vG_at {i : Nat} {d : D} (h : δ[i]? = some (some d)) : vG i δ μ = .ok d μ := by unfold vG; rw [h]; rfl
theorem opG_ok {g : D → D → Mn D} {a b : EG} {x y : D} (h1 : a δ μ = .ok x μ1) (h2 : b δ μ1 = .ok y μ2) : opG g a b δ μ = g x y μ2 := by
  unfold opG
  rw [bnd_ok h1, bnd_ok h2]
theorem consG_ok {a : EG} {b : AG} {x : D} {xs : List D} (h1 : a δ μ = .ok x μ1) (h2 : b δ μ1 = .ok xs μ2) : consG a b δ μ = .ok (x :: xs) μ2 := by
  unfold consG
  rw [bnd_ok h1, bnd_ok h2]; rfl
theorem nilG_ok : nilG δ μ = .ok [] μ := rfl
theorem cG_ok {d : D} : cG d δ μ = .ok d μ := rfl
theorem callG_ok {F : Fn} {a : AG} {xs : List D} (h : a δ μ = .ok xs μ1) : callG F a δ μ = F xs μ1 := bnd_ok h
theorem caG_ok {F : Fn} {a : AG} {xs : List D} (h : a δ μ = .ok xs μ1) : caG F a δ μ = F xs μ1 := bnd_ok h
theorem cLG_ok {g : List D → Mn D} {a : AG} {xs : List D} (h : a δ μ = .ok xs μ1) : cLG g a δ μ = g xs μ1 := bnd_ok h
theorem cLLG_ok {g : List D → Mn (List D)} {a : AG} {xs : List D} (h : a δ μ = .ok xs μ1) : cLLG g a δ μ = g xs μ1 := bnd_ok h
theorem allocG_ok {a : AG} {xs : List D} (h : a δ μ = .ok xs μ1) : allocG a δ μ = .ok (.loc μ1.length) (μ1 ++ [.lst xs]) := by unfold allocG; rw [bnd_ok h]
theorem tB1_ok {a : EG} {b : Bool} (h : a δ μ = .ok (.bl b) μ1) : tB1 a δ μ = .ok b μ1 := by unfold tB1; rw [bnd_ok h]; rfl
theorem notB_ok {a : BG} {b : Bool} (h : a δ μ = .ok b μ1) : notB a δ μ = .ok (!b) μ1 := by unfold notB; rw [bnd_ok h]; rfl
theorem orB_f {a b : BG} (h : a δ μ = .ok false μ1) : orB a b δ μ = b δ μ1 := by unfold orB; rw [bnd_ok h]; rfl
theorem orB_t {a b : BG} (h : a δ μ = .ok true μ1) : orB a b δ μ = .ok true μ1 := by unfold orB; rw [bnd_ok h]; rfl
theorem andB_t {a b : BG} (h : a δ μ = .ok true μ1) : andB a b δ μ = b δ μ1 := by unfold andB; rw [bnd_ok h]; rfl
theorem andB_f {a b : BG} (h : a δ μ = .ok false μ1) : andB a b δ μ = .ok false μ1 := by unfold andB; rw [bnd_ok h]; rfl
theorem andG_ok {a b : EG} {x y : Bool} (h1 : a δ μ = .ok (.bl x) μ1) (h2 : x = true → b δ μ1 = .ok (.bl y) μ1) : andG a b δ μ = .ok (.bl (x && y)) μ1 := by
  unfold andG
  rw [bnd_ok h1]
  cases x with
  | true => exact h2 rfl
  | false => rfl
theorem andB_ok {a b : BG} {x y : Bool} (h1 : a δ μ = .ok x μ1) (h2 : x = true → b δ μ1 = .ok y μ1) : andB a b δ μ = .ok (x && y) μ1 := by
  cases x with
  | true => rw [andB_t h1]; exact h2 rfl
  | false => rw [andB_f h1]; rfl
theorem orB_ok {a b : BG} {x y : Bool} (h1 : a δ μ = .ok x μ1) (h2 : x = false → b δ μ1 = .ok y μ1) : orB a b δ μ = .ok (x || y) μ1 := by
  cases x with
  | false => rw [orB_f h1]; exact h2 rfl
  | true => rw [orB_t h1]; rfl
theorem notG_ok {a : EG} {b : Bool} (h : a δ μ = .ok (.bl b) μ1) : notG a δ μ = .ok (.bl (!b)) μ1 := by unfold notG; rw [bnd_ok h]; rfl
theorem ifG_t {t : BG} {a b : Dn → Mn α} (h : t δ μ = .ok true μ1) : ifG t a b δ μ = a δ μ1 := by unfold ifG; rw [bnd_ok h]; rfl
theorem ifG_f {t : BG} {a b : Dn → Mn α} (h : t δ μ = .ok false μ1) : ifG t a b δ μ = b δ μ1 := by unfold ifG; rw [bnd_ok h]; rfl
theorem tupG_ok {a : AG} {xs : List D} (h : a δ μ = .ok xs μ1) (hl : xs.length ≤ sizeLine) : tupG a δ μ = .ok (.tup xs) μ1 := by unfold tupG; rw [bnd_ok h, if_pos hl]; rfl
theorem lstG_ok {a : AG} {xs : List D} (h : a δ μ = .ok xs μ1) (hl : xs.length ≤ sizeLine) : lstG a δ μ = .ok xs μ1 := by unfold lstG; rw [bnd_ok h, if_pos hl]; rfl
theorem srcG_tup {a : EG} {ds : List D} (h : a δ μ = .ok (.tup ds) μ1) : srcG a δ μ = .ok ⟨ds, fun _ => true⟩ μ1 := bnd_ok h
theorem srcG_fz {a : EG} {ds : List D} (h : a δ μ = .ok (.fz ds) μ1) : srcG a δ μ = .ok ⟨ds, fun _ => true⟩ μ1 := bnd_ok h
theorem srcG_loc {a : EG} {n : Nat} {ds : List D} (h : a δ μ = .ok (.loc n) μ1) (hn : μ1[n]? = some (.lst ds)) : srcG a δ μ = .ok ⟨ds, fun μ => decide (μ[n]? = some (.lst ds))⟩ μ1 := by
  unfold srcG
  rw [bnd_ok h]
  unfold srcD
  simp only [hn]
theorem srcL_ok {a : AG} {ds : List D} (h : a δ μ = .ok ds μ1) : srcL a δ μ = .ok ⟨ds, fun _ => true⟩ μ1 := by unfold srcL; rw [bnd_ok h]; rfl
/-! statements -/
theorem seqG_nx {a b : SG} {δ1 : Dn} (h : a δ μ = .nx δ1 μ1) : seqG a b δ μ = b δ1 μ1 := by unfold seqG; rw [h]
theorem seqG_rt {a b : SG} {d : D} (h : a δ μ = .rt d μ1) : seqG a b δ μ = .rt d μ1 := by unfold seqG; rw [h]
theorem retG_ok {a : EG} {d : D} (h : a δ μ = .ok d μ1) : retG a δ μ = .rt d μ1 := thenS_ok h
theorem dropG_ok {a : EG} {d : D} (h : a δ μ = .ok d μ1) : dropG a δ μ = .nx δ μ1 := thenS_ok h
theorem setG_ok {f : TgF} {a : EG} {d : D} {δ1 : Dn} (h : a δ μ = .ok d μ1) (hf : f d δ = some δ1) : setG f a δ μ = .nx δ1 μ1 := by unfold setG; rw [thenS_ok h, hf]
theorem setG_nm {i : Nat} {a : EG} {d : D} (h : a δ μ = .ok d μ1) : setG (nmF i) a δ μ = .nx (δ.set i (some d)) μ1 := setG_ok h rfl
theorem iteG_t {c : BG} {a b : SG} (h : c δ μ = .ok true μ1) : iteG c a b δ μ = a δ μ1 := by unfold iteG; rw [thenS_ok h]; rfl
theorem iteG_f {c : BG} {a b : SG} (h : c δ μ = .ok false μ1) : iteG c a b δ μ = b δ μ1 := by unfold iteG; rw [thenS_ok h]; rfl
theorem fnG_rt {n : Nat} {G : SG} {ds : List D} {d : D} (h : G (ds.map some ++ List.replicate (n - ds.length) none) μ = .rt d μ1) : fnG n G ds μ = .ok d μ1 := by unfold fnG; rw [h]; rfl
theorem fnG_nx {n : Nat} {G : SG} {ds : List D} {δ1 : Dn} (h : G (ds.map some ++ List.replicate (n - ds.length) none) μ = .nx δ1 μ1) : fnG n G ds μ = .ok .non μ1 := by unfold fnG; rw [h]; rfl
/-! what is forgotten -/
theorem trimP_one {F : Fn} {ds : List D} {d : D} (h : F ds μ = .ok d μ1) (hb : d.bd μ.length = true) (ht : μ1.take μ.length = μ) : trimP F ds μ = .ok d μ := by
  unfold trimP
  rw [h]
  simp only [hb, ht, and_self, if_true]
theorem trimP_id {F : Fn} {ds : List D} {d : D} (h : F ds μ = .ok d μ) : trimP F ds μ = .ok d μ := by
  unfold trimP
  rw [h]
  simp only
  split <;> rfl
theorem trimP_more {F : Fn} {ds : List D} {d : D} {m : Store} (h : F ds μ = .ok d (μ ++ m)) (hb : d.bd μ.length = true) : trimP F ds μ = .ok d μ := trimP_one h hb List.take_left
theorem trimW_id {F : Fn} {ds : List D} {d : D} (h : F ds μ = .ok d μ1) (hl : μ1.length = μ.length) : trimW F ds μ = .ok d μ1 := by
  unfold trimW
  rw [h]
  simp only
  split
  · rw [← hl, List.take_length]
  · rfl
/-- whatever is forgotten, the first n objects stand -/
theorem trimW_some {F : Fn} {ds : List D} {d : D} {a m : Store} (h : F ds μ = .ok d (a ++ m)) (hl : a.length = μ.length) : ∃ m', trimW F ds μ = .ok d (a ++ m') := by
  unfold trimW
  rw [h]
  simp only
  split
  · exact ⟨[], by rw [← hl, List.take_left, List.append_nil]⟩
  · exact ⟨m, rfl⟩
end

/-! ### comprehensions, loops -/
section
variable {α β : Type} {μ μ1 μ2 : Store} {δ : Dn} {own own1 : List Nat} {set set1 : TgF} {tst tst1 : BG} {elt : EG} {chk : Store → Bool}
theorem lcL_typed {ck : Bool} (e : α → D) (p : α → Bool) (f : α → D) (hc : chk μ = true) : ∀ (as : List α) (acc : List D), (∀ a ∈ as, ∃ δ1, set (e a) (wipeD δ own) = some δ1 ∧ tst δ1 μ = .ok (p a) μ ∧ (p a = true → elt δ1 μ = .ok (f a) μ)) → (ck = false ∨ acc.length + as.length ≤ sizeLine) →
    lcL ck own set tst elt chk δ (as.map e) acc μ = .ok (acc ++ (as.filter p).map f) μ
  | [], acc, _, _ => by simp [lcL, hc]
  | a :: as, acc, h, hl => by
    obtain ⟨δ1, h1, h2, h3⟩ := h a List.mem_cons_self
    have ih := fun acc => lcL_typed (ck := ck) e p f hc as acc fun b hb => h b (List.mem_cons_of_mem _ hb)
    rw [List.map_cons, lcL]
    simp only [hc, if_true, h1, h2]
    cases hp : p a with
    | false =>
      simp only [Bool.false_eq_true, if_false]
      rw [ih acc (hl.imp id fun z => by simp at z; omega), List.filter_cons, hp]; rfl
    | true =>
      simp only [if_true, h3 hp]
      have hk : ¬ (ck = true ∧ sizeLine ≤ acc.length) := fun z => by
        rcases hl with q | q
        · rw [q] at z; cases z.1
        · simp at q; omega
      rw [if_neg hk, ih (acc ++ [f a]) (hl.imp id fun z => by simp at z ⊢; omega), List.filter_cons, hp]
      simp
theorem lcG_typed {I : SrcG} (e : α → D) (p : α → Bool) (f : α → D) (as : List α) (hI : I δ μ = .ok ⟨as.map e, chk⟩ μ1) (hc : chk μ1 = true)
    (h : ∀ a ∈ as, ∃ δ1, set (e a) (wipeD δ own) = some δ1 ∧ tst δ1 μ1 = .ok (p a) μ1 ∧ (p a = true → elt δ1 μ1 = .ok (f a) μ1)) : lcG own I set tst elt δ μ = .ok ((as.filter p).map f) μ1 := by
  unfold lcG
  rw [bnd_ok hI, lcL_typed e p f hc as [] h (.inl rfl), List.nil_append]
/-- no test -/
theorem lcG_map {I : SrcG} (e : α → D) (f : α → D) (as : List α) (hI : I δ μ = .ok ⟨as.map e, chk⟩ μ1) (hc : chk μ1 = true)
    (h : ∀ a ∈ as, ∃ δ1, set (e a) (wipeD δ own) = some δ1 ∧ elt δ1 μ1 = .ok (f a) μ1) : lcG own I set yesB elt δ μ = .ok (as.map f) μ1 := by
  have z := lcG_typed (tst := yesB) (own := own) (elt := elt) (set := set) e (fun _ => true) f as hI hc fun a ha => by
    obtain ⟨δ1, h1, h2⟩ := h a ha
    exact ⟨δ1, h1, rfl, fun _ => h2⟩
  rw [z, List.filter_eq_self.mpr fun _ _ => rfl]
theorem lc2G_map {γ : Type} {I I1 : SrcG} (e : α → D) (f : α → γ → D) (e1 : α → γ → D) (as : List α) (bs : α → List γ) (hI : I δ μ = .ok ⟨as.map e, chk⟩ μ1) (hc : chk μ1 = true) (hl : (as.flatMap bs).length ≤ sizeLine)
    (h : ∀ a ∈ as, ∃ δ1, set (e a) (wipeD δ own) = some δ1 ∧ (∃ chk1, I1 δ1 μ1 = .ok ⟨(bs a).map (e1 a), chk1⟩ μ1 ∧ chk1 μ1 = true) ∧ ∀ b ∈ bs a, ∃ δ2, set1 (e1 a b) (wipeD δ1 own1) = some δ2 ∧ elt δ2 μ1 = .ok (f a b) μ1) :
    lc2G own own1 I set yesB I1 set1 yesB elt δ μ = .ok (as.flatMap fun a => (bs a).map (f a)) μ1 := by
  unfold lc2G
  rw [bnd_ok hI]
  have z : ∀ (as : List α) (acc : List D), acc.length + (as.flatMap bs).length ≤ sizeLine → (∀ a ∈ as, ∃ δ1, set (e a) (wipeD δ own) = some δ1 ∧ (∃ chk1, I1 δ1 μ1 = .ok ⟨(bs a).map (e1 a), chk1⟩ μ1 ∧ chk1 μ1 = true) ∧ ∀ b ∈ bs a, ∃ δ2, set1 (e1 a b) (wipeD δ1 own1) = some δ2 ∧ elt δ2 μ1 = .ok (f a b) μ1) →
      lc2L own own1 set yesB I1 set1 yesB elt chk δ (as.map e) acc μ1 = .ok (acc ++ as.flatMap fun a => (bs a).map (f a)) μ1 := by
    intro as
    induction as with
    | nil => intro acc _ _; simp [lc2L, hc]
    | cons a as ih =>
      intro acc hl h
      obtain ⟨δ1, h1, ⟨chk1, h2, h3⟩, h4⟩ := h a List.mem_cons_self
      rw [List.flatMap_cons, List.length_append] at hl
      rw [List.map_cons, lc2L]
      have y : yesB δ1 μ1 = .ok true μ1 := rfl
      simp only [hc, if_true, h1, y, h2]
      have q := lcL_typed (ck := true) (own := own1) (set := set1) (tst := yesB) (elt := elt) (chk := chk1) (δ := δ1) (e1 a) (fun _ => true) (f a) h3 (bs a) acc (fun b hb => by
        obtain ⟨δ2, h5, h6⟩ := h4 b hb
        exact ⟨δ2, h5, rfl, fun _ => h6⟩) (.inr (by omega))
      simp only [q]
      rw [List.filter_eq_self.mpr fun _ _ => rfl, ih _ (by rw [List.length_append, List.length_map]; omega) fun b hb => h b (List.mem_cons_of_mem _ hb), List.flatMap_cons, List.append_assoc]
  exact z as [] (by simpa using hl) h
/-- a loop that runs through -/
theorem forL_all {body : SG} (P : Nat → Dn → Store → Prop) (items : List D) (hc : ∀ i δ μ, P i δ μ → chk μ = true)
    (hs : ∀ (i : Nat) (d : D) (δ : Dn) (μ : Store), items[i]? = some d → P i δ μ → ∃ δ1, set d δ = some δ1 ∧ ∃ δ2 μ2, body δ1 μ = .nx δ2 μ2 ∧ P (i + 1) δ2 μ2) (h0 : P 0 δ μ) :
    ∃ δ' μ', forL set body chk items δ μ = .nx δ' μ' ∧ P items.length δ' μ' := by
  have z : ∀ (k i : Nat) (δ : Dn) (μ : Store), items.length - i = k → i ≤ items.length → P i δ μ → ∃ δ' μ', forL set body chk (items.drop i) δ μ = .nx δ' μ' ∧ P items.length δ' μ' := by
    intro k
    induction k with
    | zero =>
      intro i δ μ hk hi hp
      have e : i = items.length := by omega
      subst e
      rw [List.drop_length]
      exact ⟨δ, μ, by rw [forL, if_pos (hc _ _ _ hp)], hp⟩
    | succ k ih =>
      intro i δ μ hk hi hp
      have hlt : i < items.length := by omega
      obtain ⟨δ1, h1, δ2, μ2, h2, hp2⟩ := hs i items[i] δ μ (List.getElem?_eq_getElem hlt) hp
      obtain ⟨δ', μ', h3, h4⟩ := ih (i + 1) δ2 μ2 (by omega) hlt hp2
      refine ⟨δ', μ', ?_, h4⟩
      rw [List.drop_eq_getElem_cons hlt, forL, if_pos (hc _ _ _ hp)]
      simp only [h1, h2]
      exact h3
  exact z _ 0 δ μ rfl (Nat.zero_le _) h0
theorem forG_all {body : SG} {I : SrcG} {s : Src} (P : Nat → Dn → Store → Prop) (hI : I δ μ = .ok s μ1) (hc : ∀ i δ μ, P i δ μ → s.chk μ = true)
    (hs : ∀ (i : Nat) (d : D) (δ : Dn) (μ : Store), s.items[i]? = some d → P i δ μ → ∃ δ1, set d δ = some δ1 ∧ ∃ δ2 μ2, body δ1 μ = .nx δ2 μ2 ∧ P (i + 1) δ2 μ2) (h0 : P 0 δ μ1) :
    ∃ δ' μ', forG I set body δ μ = .nx δ' μ' ∧ P s.items.length δ' μ' := by
  obtain ⟨δ', μ', h1, h2⟩ := forL_all P s.items hc hs h0
  exact ⟨δ', μ', by unfold forG; rw [thenS_ok hI]; exact h1, h2⟩
theorem allC_map (bs : List Bool) : allC (bs.map D.bl) μ = .ok (.bl (bs.all id)) μ := by
  unfold allC
  simp only [unBls_map]
  rfl
theorem anyC_map (bs : List Bool) : anyC (bs.map D.bl) μ = .ok (.bl (bs.any id)) μ := by
  unfold anyC
  simp only [unBls_map]
  rfl
end
/-! ### data without places -/
theorem bds_ints (n : Nat) : ∀ is : List Int, bds n (is.map D.int) = true
  | [] => by simp [bds]
  | i :: is => by simp [bds, D.bd, bds_ints n is]
theorem bd_tupI (n : Nat) (k : List Int) : (tupI k).bd n = true := by rw [tupI, D.bd]; exact bds_ints n k
theorem bds_tups (n : Nat) : ∀ ks : List (List Int), bds n (ks.map tupI) = true
  | [] => by simp [bds]
  | k :: ks => by simp [bds, bd_tupI, bds_tups n ks]
theorem tupI_inj {a b : List Int} (h : tupI a = tupI b) : a = b := by
  unfold tupI at h
  injection h with h
  exact List.map_inj_right (fun x y e => by injection e) |>.mp h
theorem int_mem {i : Int} {k : List Int} : D.int i ∈ k.map D.int ↔ i ∈ k := by
  rw [List.mem_map]
  exact ⟨fun ⟨j, hj, e⟩ => by cases e; exact hj, fun h => ⟨i, h, rfl⟩⟩
/-! equality, membership of ints and of tuples of ints -/
theorem py_int (i : Int) : (D.int i).py = some (.int i) := by rw [D.py]
theorem pyAll_ints : ∀ k : List Int, pyAll (k.map D.int) = some (k.map PyData.int)
  | [] => by simp [pyAll]
  | i :: k => by rw [List.map_cons, pyAll, py_int, pyAll_ints k]; rfl
theorem py_tupI (k : List Int) : (tupI k).py = some (.tuple (k.map .int)) := by rw [tupI, D.py, pyAll_ints]
theorem shp_int (i : Int) : shp (.int i) = true := by
  unfold shp SeqAt.shaped
  simp [PyData.canLay0, PyData.depth]
theorem canLay_ints : ∀ k : List Int, PyData.canLayAll0 (k.map .int) = true
  | [] => by simp [PyData.canLayAll0]
  | i :: k => by simp [PyData.canLayAll0, PyData.canLay0, canLay_ints k]
theorem shp_tup (k : List Int) : shp (.tuple (k.map .int)) = true := by
  unfold shp SeqAt.shaped
  rw [PyData.canLay0, canLay_ints, PyData.depth, PySem.W.depth_ints]
  rfl
theorem shp_lst (k : List Int) : shp (.list (k.map .int)) = true := by
  unfold shp SeqAt.shaped
  rw [PyData.canLay0, canLay_ints, PyData.depth, PySem.W.depth_ints]
  rfl
theorem eqv_int (i j : Int) : PyData.eqv (.int i) (.int j) = decide (i = j) := by
  rw [PyData.eqv]
  rfl
theorem eqvAll_ints : ∀ a b : List Int, PyData.eqvAll (a.map .int) (b.map .int) = decide (a = b)
  | [], [] => by simp [PyData.eqvAll]
  | [], _ :: _ => by simp [PyData.eqvAll]
  | _ :: _, [] => by simp [PyData.eqvAll]
  | x :: xs, y :: ys => by
    rw [List.map_cons, List.map_cons, PyData.eqvAll, eqv_int, eqvAll_ints xs ys]
    simp
theorem any_eqv (i : Int) (k : List Int) : (k.map PyData.int).any (fun z => PyData.eqv z (.int i)) = decide (i ∈ k) := by
  rw [List.any_map]
  induction k with
  | nil => rfl
  | cons j k ih =>
    rw [List.any_cons, ih]
    show (PyData.eqv (.int j) (.int i) || _) = _
    rw [eqv_int]
    simp [eq_comm]
theorem eqD_int (neg : Bool) (i j : Int) (μ : Store) : eqD neg (.int i) (.int j) μ = .ok (.bl (if neg then !decide (i = j) else decide (i = j))) μ := by
  unfold eqD
  rw [py_int, py_int]
  simp only [shp_int, Bool.and_self, if_true, eqv_int]
  rfl
theorem eqD_tup (neg : Bool) (a b : List Int) (μ : Store) : eqD neg (tupI a) (tupI b) μ = .ok (.bl (if neg then !decide (a = b) else decide (a = b))) μ := by
  unfold eqD
  rw [py_tupI, py_tupI]
  simp only [shp_tup, Bool.and_self, if_true]
  rw [PyData.eqv, eqvAll_ints]
  rfl
theorem inD_tup (neg : Bool) (i : Int) (k : List Int) (μ : Store) : inD neg (.int i) (tupI k) μ = .ok (.bl (if neg then !decide (i ∈ k) else decide (i ∈ k))) μ := by
  unfold inD tupI seqOf
  simp only [py_int, pyAll_ints, shp_int, shp_tup, shp_lst, Bool.and_self, if_true, any_eqv]
theorem inD_loc {neg : Bool} {i : Int} {k : List Int} {μ : Store} {n : Nat} (h : μ[n]? = some (.lst (k.map D.int))) : inD neg (.int i) (.loc n) μ = .ok (.bl (if neg then !decide (i ∈ k) else decide (i ∈ k))) μ := by
  unfold inD seqOf
  simp only [h, py_int, pyAll_ints, shp_int, shp_tup, shp_lst, Bool.and_self, if_true, any_eqv]
theorem lexLt_is : ∀ a b : List Int, HT.lexLt a b = decide (a < b)
  | [], [] => by simp [HT.lexLt]
  | [], _ :: _ => by simp [HT.lexLt]
  | _ :: _, [] => by simp [HT.lexLt]
  | x :: xs, y :: ys => by
    rw [HT.lexLt]
    by_cases h : x = y
    · rw [if_pos h, lexLt_is xs ys]
      simp [h, List.cons_lt_cons_iff]
    · rw [if_neg h]
      simp [h, List.cons_lt_cons_iff]
theorem ltD_tup (a b : List Int) (μ : Store) : ltD (tupI a) (tupI b) μ = .ok (.bl (decide (a < b))) μ := by
  unfold ltD tupI
  simp only [unInts_map, lexLt_is]
  rfl
theorem ltD_int (a b : Int) (μ : Store) : ltD (.int a) (.int b) μ = .ok (.bl (decide (a < b))) μ := rfl
theorem addD_int (a b : Int) (μ : Store) : addD (.int a) (.int b) μ = .ok (.int (a + b)) μ := rfl
theorem subD_int (a b : Int) (μ : Store) : subD (.int a) (.int b) μ = .ok (.int (a - b)) μ := rfl
theorem leD_int (a b : Int) (μ : Store) : leD (.int a) (.int b) μ = .ok (.bl (decide (a ≤ b))) μ := rfl
theorem gtD_int (a b : Int) (μ : Store) : gtD (.int a) (.int b) μ = .ok (.bl (decide (b < a))) μ := rfl
theorem geD_int (a b : Int) (μ : Store) : geD (.int a) (.int b) μ = .ok (.bl (decide (b ≤ a))) μ := rfl
theorem addD_tup {a b : List Int} (μ : Store) (h : a.length + b.length ≤ sizeLine) : addD (tupI a) (tupI b) μ = .ok (tupI (a ++ b)) μ := by
  unfold addD tupI fit
  simp only [List.length_map, if_pos h, List.map_append]
  rfl
theorem modD_int {a b : Int} (μ : Store) (h : 0 < b) : modD (.int a) (.int b) μ = .ok (.int (a % b)) μ := by
  unfold modD intD
  simp only [decide_eq_true h, if_true]
  rfl
theorem fdivD_int {a b : Int} (μ : Store) (h : 0 < b ∧ b < 1073741824) : fdivD (.int a) (.int b) μ = .ok (.int (a / b)) μ := by
  unfold fdivD intD
  simp only [decide_eq_true h, if_true]
  rfl
theorem mulD_int {a b : Int} (μ : Store) (h : (-(2 ^ 64) < a ∧ a < 2 ^ 64) ∨ (-(2 ^ 64) < b ∧ b < 2 ^ 64)) : mulD (.int a) (.int b) μ = .ok (.int (a * b)) μ := by
  unfold mulD intD
  simp only [decide_eq_true h, if_true]
  rfl
theorem powD_int {a b : Int} (μ : Store) (h : 0 ≤ b ∧ b ≤ 1000000 ∧ a.natAbs < 2 ^ 64) : powD (.int a) (.int b) μ = .ok (.int (a ^ b.toNat)) μ := by
  unfold powD intD
  simp only [decide_eq_true h, if_true]
  rfl
end Sim

set_option autoImplicit false
/-! Sim, part 13: calls by keywords, a local def's name, len(set(..)), lists held against each other. -/
namespace L2
open PySem PySem.Spec PyProof.Rows
section
variable {CX : CXT} {X : Cx} {k : Nat} {f : Addr} {fd : FuncData} {ps ks : List Str} {sp : Sp} {E : XK} {x : Str} {p pos : Pos} {kws : List Keyword} {tk : TA} {g : List Value → List Value → List Value} {gV : List V → List V → List V}
/-- f(k = v, ..), no argument else -/
theorem pe_callK0 (F : FnOk X.prog X.w X.K X.mg X.base CX k f fd ps sp) (hr : Room k X.A) (hg : Gl X x) (hm : X.mg x = some (.ref f)) (hk : PySem.W.keepIn X.K (.ref f) = true) (hb : KBinds X.K fd ps ks g gV) (hx : Passes CX X E)
    (hkw : PK X kws tk) (hall : (backToKw pos (keywordEach kws X.env)).all (·.1.isSome) = true := by rfl) (hks : (backToKw pos (keywordEach kws X.env)).filterMap (·.1) = ks := by rfl)
    (hdb : (x == ("__debug__" : Str)) = false := by decide) (hpl : ((backTo pos (starEach [] X.env)).any (·.1) || (backToKw pos (keywordEach kws X.env)).any (·.1.isNone)) = false := by rfl) :
    PE X (.Call (.Name x p) [] kws pos) (tCallK sp gV E tNil tk) := by
  refine ⟨fun pins s σ H Q I h => wpAny_Call_Name_kw (ld_glob I hg hm ?_ hdb)⟩
  refine PySem.W.callWith_KW0 (h₀ := X.base) I.ok.mod.kin hk hall (thn (hkw.run pos pins s σ H _ I h) fun ws s2 ⟨zs, H2, I2, rz, q2⟩ => ⟨I2.kIn, ?_⟩) hpl
  rw [hks]
  exact run_fnk F hr hb hx I2 .nil rz q2
end
/-- n keyword arguments alone, put into the parameters' sequence -/
def kpG {α : Type} (n : Nat) (p : List Nat) (us ws : List α) : List α := if us.length = 0 ∧ ws.length = n then p.filterMap fun i => ws[i]? else []
theorem kpG_rel {n : Nat} {p : List Nat} {vs zs : List V} {us ws : List Value} (r : Vals vs us) (q : Vals zs ws) : Vals (kpG n p vs zs) (kpG n p us ws) := by
  unfold kpG
  rw [r.length, q.length]
  split
  · clear r
    induction p with
    | nil => exact .nil
    | cons i p ih =>
      rw [List.filterMap_cons, List.filterMap_cons]
      cases hz : zs[i]? with
      | none =>
        have hw : ws[i]? = none := by
          rw [List.getElem?_eq_none_iff] at hz ⊢
          rw [← q.length]; exact hz
        rw [hw]; exact ih
      | some v =>
        obtain ⟨u, hu, ru⟩ := q.get hz
        rw [hu]
        exact .cons ru ih
  · exact .nil
theorem len1 {α : Type} {ws : List α} (h : ws.length = 1) : ∃ a, ws = [a] := by
  cases ws with
  | nil => cases h
  | cons a ws => cases ws with
    | nil => exact ⟨a, rfl⟩
    | cons _ _ => cases h
theorem len2 {α : Type} {ws : List α} (h : ws.length = 2) : ∃ a b, ws = [a, b] := by
  cases ws with
  | nil => cases h
  | cons a ws =>
    obtain ⟨b, rfl⟩ := len1 (Nat.succ.inj h)
    exact ⟨a, b, rfl⟩
theorem len3 {α : Type} {ws : List α} (h : ws.length = 3) : ∃ a b c, ws = [a, b, c] := by
  cases ws with
  | nil => cases h
  | cons a ws =>
    obtain ⟨b, c, rfl⟩ := len2 (Nat.succ.inj h)
    exact ⟨a, b, c, rfl⟩
theorem kpG_to {n : Nat} {p : List Nat} {us ws : List Value} {m : Nat} (h : (kpG n p us ws).length = m) (hm : 0 < m) : us = [] ∧ ws.length = n := by
  unfold kpG at h
  by_cases c : us.length = 0 ∧ ws.length = n
  · exact ⟨List.length_eq_zero_iff.mp c.1, c.2⟩
  · rw [if_neg c] at h
    rw [List.length_nil] at h
    omega
section
variable {X : Cx}
/-- len(a set of ints) -/
def rLenSet (w : World) : List V → Hp → VK → Prop := fun vs H Q => ∃ (a : Addr) (S : Int → Bool) (n : Nat), vs = [V.ref a] ∧ H a = some (SetO w a S n) ∧ ∀ ks : List Int, ks.Nodup → (∀ k, k ∈ ks ↔ S k = true) → ks.length = n → Q (.int n) H
theorem cr_lenSet (hc : X.calm = true) : CallR X (.builtin "len") (rLenSet X.w) := by
  intro pins s σ H vs us Q I r h
  obtain ⟨a, S, n, rfl, ha, q⟩ := h
  have R := setO_get I ha
  rw [Vals.ref1 r]
  obtain ⟨o, es, ep, t, ho, hex, hd, g, nd, hm, hb, hf, hn, hr, hl⟩ := R
  have qq := q (es.toList.map keyOf) nd (fun k => by rw [hm k]) (by rw [List.length_map, Array.length_toList]; exact hn)
  refine call_len_set ho hex hd hf ?_ ⟨.int n, H, I.tok _, ⟨_, by rw [hn]⟩, qq⟩
  have := fits_of_scanBound hb
  rw [sizeLine_eq] at this
  omega
end
end L2
namespace Sim
open PySem L2 PyProof.Rows
section
variable {K : PySem.W.Frag} {Γ : Clss} {E : XK} {ρ ρ1 ρ2 ρ' : List Addr} {H H1 H2 H' : Hp} {μ μ1 : Store} {σ : L2.St} {δ : Dn}
variable {ta tb tc : TE} {Fa Fb Fc : EG} {La Lb : AG}
def kwG (F : Fn) (n : Nat) (p : List Nat) (a : AG) : EG := fun δ => bnd (a δ) fun ds => F (kpG n p [] ds)
theorem filt_rvs {p : List Nat} {zs : List V} {ds : List D} (q : RVs K ρ H zs ds) : RVs K ρ H (p.filterMap fun i => zs[i]?) (p.filterMap fun i => ds[i]?) := by
  induction p with
  | nil => exact .nil
  | cons i p ih =>
    rw [List.filterMap_cons, List.filterMap_cons]
    cases hz : zs[i]? with
    | none =>
      have hw : ds[i]? = none := by
        rw [List.getElem?_eq_none_iff] at hz ⊢
        rw [← q.length]; exact hz
      rw [hw]; exact ih
    | some v =>
      obtain ⟨d, hd, r⟩ := q.get hz
      rw [hd]
      exact .cons r ih
theorem kpG_rvs {n : Nat} {p : List Nat} {zs : List V} {ds : List D} (q : RVs K ρ H zs ds) : RVs K ρ H (kpG n p [] zs) (kpG n p [] ds) := by
  unfold kpG
  by_cases c : ds.length = n
  · rw [if_pos ⟨rfl, by rw [q.length]; exact c⟩, if_pos ⟨rfl, c⟩]; exact filt_rvs q
  · rw [if_neg fun z => c (by rw [← q.length]; exact z.2), if_neg fun z => c z.2]; exact .nil
theorem sim_callKw {k n : Nat} {p : List Nat} {F : Fn} {t : TA} (ha : SimA K Γ E0 t La) (hk : ∀ δ μ ds μ', La δ μ = .ok ds μ' → ds.length = n) (hp0 : ∀ ds : List D, ds.length = n → (kpG n p [] ds).length = k) : SimE K Γ E0 (tCallK (spN K Γ k F) (kpG n p) E0 tNil t) (kwG F n p La) := fun ρ μ δ σ H S e Q hp => by
  unfold kwG bnd at hp
  refine ha ρ μ δ σ H S e _ ?_
  cases h : La δ μ with
  | ex y μ' => rw [h] at hp; exact hp
  | stuck => rw [h] at hp; exact hp.elim
  | ok ds μ' =>
    rw [h] at hp
    intro vs ρ' H' x s r
    have q := kpG_rvs (n := n) (p := p) r
    exact ⟨q.length.trans (hp0 ds (hk δ μ ds μ' h)), ρ', μ', _, s, q, hp.weak x⟩
/-- len(set(xs)), xs of ints -/
def lenSetC (ds : List D) : Mn D := match unInts ds with
  | some is => if is.length < 1000 then ret (.int (setI is).length) else stk
  | none => stk
def CaQ1 (K : PySem.W.Frag) (Γ : Clss) (E : XK) (r : List V → Hp → VK → Prop) (g : List D → Mn D) : Prop :=
  ∀ (ρ : List Addr) (μ : Store) (H : Hp) (p : Addr) (xs : List V) (ds : List D) (Q : VK), SR K Γ ρ μ H → (SqL K H p xs ∨ SqT K H p xs) → xs.length ≤ sizeLine → RVs K ρ H xs ds → Post K Γ E (RV K) ρ H (g ds μ) Q → r [.ref p] H Q
def cQ1G (g : List D → Mn D) (a : EG) : EG := fun δ => bnd (a δ) fun d => bnd (itemsQ d) g
theorem sim_cQ1 {r : List V → Hp → VK → Prop} {g : List D → Mn D} (hr : CaQ1 K Γ E r g) (ha : SimE K Γ E ta Fa) : SimE K Γ E (tCB r (tCons ta tNil)) (cQ1G g Fa) := fun ρ μ δ σ H S e Q hp => by
  refine ha.go S e hp fun v d ρ1 μ1 H1 x1 S1 r1 hp1 => ?_
  unfold bnd itemsQ at hp1
  cases h : seqOf d μ1 with
  | none => simp only [h] at hp1; exact hp1.elim
  | some p =>
    obtain ⟨t, es⟩ := p
    obtain ⟨a, xs, rfl, hl, rr, hk⟩ := r1.seq S1 h
    simp only [h] at hp1
    exact hr ρ1 μ1 H1 a xs es Q S1 (hk.elim (fun z => .inr z.2) fun z => .inl z.2) hl rr hp1
theorem q_lenSet {w : World} : CaQ1 K Γ E (fun vs H Q => rSetI K w vs H fun a H1 => rLenSet w [a] H1 Q) lenSetC := fun ρ μ H p xs ds Q S hx hl r hp => by
  unfold lenSetC at hp
  cases h : unInts ds with
  | none => simp only [h] at hp; exact hp.elim
  | some is =>
    simp only [h] at hp
    by_cases h64 : is.length < 1000
    · simp only [if_pos h64] at hp
      have e := unInts_some h
      subst e
      refine ⟨p, is, rfl, by rw [← r.ints]; exact hx, h64, fun a c hn hc => ⟨a, _, c, rfl, upd_same, fun ks nd hm hlen => ?_⟩⟩
      have x1 : Ext ρ H ρ (upd H a (SetO w a (fun j => decide (j ∈ is)) c)) := Ext.new hn
      have pm : ks.Perm (setI is) := (List.perm_ext_iff_of_nodup nd (setI_nodup is)).mpr fun k => ((hm k).trans (by simp)).trans mem_setI.symm
      have e2 : (c : Int) = ((setI is).length : Nat) := by rw [← hlen, pm.length_eq]
      rw [e2]
      exact hp _ ρ _ x1 (S.new hn) (.int _)
    · simp only [if_neg h64] at hp; exact hp.elim
theorem sim_lenSet {w : World} (ha : SimE K Γ E ta Fa) : SimE K Γ E (tCB (rLenSet w) (tCons (tCB (rSetI K w) (tCons ta tNil)) tNil)) (cQ1G lenSetC Fa) := by
  have z := sim_cQ1 (q_lenSet (w := w)) ha
  exact z
/-- two new lists of plain data held against each other -/
def eqLLG (neg : Bool) (a b : AG) : EG := fun δ => bnd (a δ) fun xs => bnd (b δ) fun ys => match pyAll xs, pyAll ys with
  | some p, some q => if (shp (.list p) && shp (.list q)) = true then ret (.bl (if neg then !PyData.eqv (.list p) (.list q) else PyData.eqv (.list p) (.list q))) else stk
  | _, _ => stk
theorem sim_neLL (ha : SimL K Γ E ta La) (hb : SimL K Γ E tb Lb) : SimE K Γ E (tOp (rNeD K) ta tb) (eqLLG true La Lb) := fun ρ μ δ σ H S e Q hp => by
  refine ha.go S e hp fun v xs ρ1 μ1 H1 x1 S1 r1 hp1 => ?_
  refine hb.go S1 (e.ext x1) hp1 fun w ys ρ2 μ2 H2 x2 S2 r2 hp2 => ?_
  obtain ⟨a, vs, rfl, h0, hn, hl, hz, rr⟩ := r1
  obtain ⟨b, ws, rfl, h0', hn', hl', hz', rr'⟩ := r2
  cases e1 : pyAll xs with
  | none => simp only [e1] at hp2; exact hp2.elim
  | some p => cases e2 : pyAll ys with
    | none => simp only [e1, e2] at hp2; exact hp2.elim
    | some q =>
      simp only [e1, e2] at hp2
      by_cases hs : (shp (.list p) && shp (.list q)) = true
      · rw [if_pos hs] at hp2
        rw [Bool.and_eq_true] at hs
        have k1 : H2 a = some (.lst vs) := x2.keep a _ hl hn trivial
        exact ⟨.list p, .list q, .lst (SqL.of k1) ((rr.ext x2).dp e1), .lst (SqL.of hl') (rr'.dp e2), hs.1, hs.2, hp2 _ ρ2 H2 Ext.refl S2 (.bl _)⟩
      · rw [if_neg hs] at hp2; exact hp2.elim
/-- {} -/
def dict0G : EG := fun _ μ => .ok (.loc μ.length) (μ ++ [.dk []])
theorem sim_dict0 : SimE K Γ E tDNewK dict0G := fun ρ μ δ σ H S e Q hp => by
  intro p hn
  have x1 : Ext ρ H (ρ ++ [p]) (upd H p (.dK [])) := Ext.add hn
  refine hp (.ref p) (ρ ++ [p]) _ x1 ((S.new hn).adopt (S.fresh hn) (.dk upd_same .nil)) (.loc ?_)
  rw [List.getElem?_append_right (by rw [S.len]; exact Nat.le_refl _), S.len, Nat.sub_self]; rfl
/-- - i -/
def negD (d : D) : Mn D := match d with
  | .int i => ret (.int (-i))
  | _ => stk
theorem s_neg : UnS K Γ E (rU fun i => .int (-i)) negD := fun ρ μ H v d Q S r hp => by
  cases r with
  | int i => exact ⟨i, rfl, hp _ ρ H Ext.refl S (.int _)⟩
  | _ => exact hp.elim
end
end Sim

set_option autoImplicit false
/-! Sim, part 14: t[::-1]. -/
namespace HT
open PySem PySem.Spec PyProof.Rows L2
section
variable {prog : Program} {w : World} {A : Around} {E : Value → Shared → Prop} {s : Shared}
theorem sim_adjust_rev (n : Nat) : Builtin.Slice.sliceAdjust none none (-1) (n : Int) = ((n : Int) - 1, -1) := by
  simp [Builtin.Slice.sliceAdjust]
theorem sim_places_rev (n : Nat) : Builtin.Slice.slicePlaces ((n : Int) - 1) (-1) (-1) = n := by
  unfold Builtin.Slice.slicePlaces
  by_cases h : n = 0
  · subst h; simp
  · simp; omega
theorem sim_applied_rev {sl : Addr} {vs : Value} {n : Nat} {Q : Int × Int × Nat → Shared → Prop} (hs : s.heap.IsSliceOf sl .none .none vs) (ps : IsPart vs (some (-1)))
    (h : Q ((n : Int) - 1, -1, n) s) : wpAny (model prog w) A (Builtin.Slice.sliceApplied (.ref sl) (pure (n : Int))) Q E s := by
  obtain ⟨os, hos, hcs, hds⟩ := id hs
  unfold Builtin.Slice.sliceApplied Builtin.Slice.sliceFields
  refine wpAny_bind (wpAny_bind (wpAny_field hos hds (x := .none) rfl (wpAny_bind (wpAny_field hos hds (x := .none) rfl (wpAny_bind (wpAny_field hos hds (x := vs) rfl (wpAny_pure ?_)))))))
  refine wpAny_bind (slicePart_ ps ?_)
  show wpAny _ _ (if ((-1 : Int) == 0) = true then _ else _) _ _ s
  rw [if_neg (by decide)]
  refine wpAny_bind (slicePart_none (wpAny_bind (slicePart_none (wpAny_bind (wpAny_pure ?_)))))
  show wpAny _ _ (match Builtin.Slice.sliceAdjust none none (-1) (n : Int) with | (lo, hi) => pure (lo, (-1 : Int), Builtin.Slice.slicePlaces lo hi (-1))) _ _ s
  rw [sim_adjust_rev]
  show wpAny _ _ (pure ((n : Int) - 1, (-1 : Int), Builtin.Slice.slicePlaces ((n : Int) - 1) (-1) (-1))) _ _ s
  rw [sim_places_rev]
  exact wpAny_pure h
theorem filt_congr {α β : Type} {f g : α → Option β} : ∀ l : List α, (∀ a ∈ l, f a = g a) → l.filterMap f = l.filterMap g
  | [], _ => rfl
  | a :: l, h => by rw [List.filterMap_cons, List.filterMap_cons, h a List.mem_cons_self, filt_congr l fun b hb => h b (List.mem_cons_of_mem _ hb)]
theorem sim_pick_rev (xs : Array Value) : ((List.range xs.size).filterMap fun (m : Nat) => xs[(((xs.size : Nat) : Int) - 1 + (m : Int) * (-1)).toNat]?).toArray = xs.toList.reverse.toArray := by
  have e : (List.range xs.size).filterMap (fun (m : Nat) => xs[(((xs.size : Nat) : Int) - 1 + (m : Int) * (-1)).toNat]?) = xs.toList.reverse := by
    apply List.ext_getElem?
    intro k
    have e2 : (List.range xs.size).filterMap (fun (m : Nat) => xs[(((xs.size : Nat) : Int) - 1 + (m : Int) * (-1)).toNat]?) = (List.range xs.size).filterMap (fun m => some (xs.toList.reverse.getD m Value.none)) := by
      refine filt_congr _ fun m hm => ?_
      rw [List.mem_range] at hm
      have q : (((xs.size : Nat) : Int) - 1 + (m : Int) * (-1)).toNat = xs.size - 1 - m := by omega
      rw [q, List.getD_eq_getElem?_getD, List.getElem?_reverse (by simpa using hm), Array.length_toList, Array.getElem?_toList]
      have hlt : xs.size - 1 - m < xs.size := by omega
      rw [Array.getElem?_eq_getElem hlt, Option.getD_some]
    rw [e2, List.filterMap_eq_map', List.getElem?_map]
    by_cases h : k < xs.size
    · rw [List.getElem?_range h, Option.map_some, List.getD_eq_getElem?_getD, List.getElem?_eq_getElem (by simpa using h), Option.getD_some]
    · rw [List.getElem?_eq_none (by rw [List.length_range]; omega), List.getElem?_eq_none (by simp; omega)]; rfl
  rw [e]
theorem sim_getItem_rev {t sl : Addr} {items : Array Value} {vs : Value} {Q : Value → Shared → Prop} (ht : IsTup s.heap t items) (hs : s.heap.IsSliceOf sl .none .none vs) (ps : IsPart vs (some (-1)))
    (h : Q (.ref s.heap.objs.size) { s with heap := s.heap.push { cls := .type "tuple", data := .seq items.toList.reverse.toArray } }) (hsz : items.size ≤ sizeLine) : wpAny (model prog w) A (getItem (.ref t) (.ref sl)) Q E s := by
  have hok : sizeOk (.seq items.toList.reverse.toArray) := by
    show items.toList.reverse.toArray.size ≤ sizeLine
    simpa using hsz
  obtain ⟨os, hos, hcs, hds⟩ := id hs
  have hT : s.TypeIs (.ref sl) "slice" := ⟨os, hos, hcs⟩
  unfold getItem
  try with_reducible refine wpAny_holding ?_
  first | refine wpAny_bind (wpAny_pure ?_) | skip
  refine wpAny_bind (wpAny_sequenceKey ht.typeIs (by decide) (wpAny_bind ?_))
  refine wpAny_callSpecial?_slot (name := Str.ofString "__getitem__") ht.typeIs PyProof.Rows.slot_tuple_getitem (wpAny_call_entry PyProof.Rows.slot_tuple_getitem ht.typeIs entry_tuple_getitem ?_ (args_tuple_getitem _ _))
  change wpAny _ _ (Builtin.Tuple.tupleItemsOf (.ref t) >>= _) _ _ s
  refine wpAny_bind (tupleItemsOf_ ht ?_)
  refine wpAny_bind (wpAny_typeOf hT ?_)
  rw [if_pos (by decide)]
  refine wpAny_bind (sim_applied_rev hs ps ?_)
  have hno : ¬ (((((items.size : Nat) : Int) - 1 == 0) && ((-1 : Int) == 1) && (items.size == items.size)) = true) := by
    have z : ((-1 : Int) == 1) = false := by decide
    rw [z, Bool.and_false, Bool.false_and]
    exact Bool.false_ne_true
  show wpAny _ _ (if ((((items.size : Nat) : Int) - 1 == 0) && ((-1 : Int) == 1) && (items.size == items.size)) = true then _ else _) _ _ s
  rw [if_neg hno, sim_pick_rev]
  first
    | exact wpAny_bind (m := Builtin.Tuple.tupleExact _) (wpAny_newObj_type (wpAny_pure ⟨_, rfl, wpAny_pure h⟩) hok)
    | exact wpAny_bind (m := Builtin.Tuple.tupleExact _) (wpAny_newObj_type (wpAny_bind (wpAny_pure (wpAny_pure ⟨_, rfl, wpAny_pure h⟩))) hok)
    | exact wpAny_bind (wpAny_bind (m := Builtin.Tuple.tupleExact _) (wpAny_newObj_type (wpAny_pure (wpAny_pure ⟨_, rfl, wpAny_pure h⟩)) hok))
    | exact wpAny_bind (wpAny_bind (m := Builtin.Tuple.tupleExact _) (wpAny_newObj_type (wpAny_pure ⟨_, rfl, wpAny_pure h⟩) hok))
end
end HT
namespace L2
open PySem PySem.Spec PyProof.Rows
section
variable {X : Cx}
/-- t[::-1] -/
def tRevT (K : PySem.W.Frag) (te : TE) : TE := fun σ H Q => te σ H fun x H1 => ∃ a xs, x = .ref a ∧ SqT K H1 a xs ∧ ∀ p, H1 p = none → Q (.ref p) (upd H1 p (.tup xs.reverse))
theorem pe_revT {e : Expr} {te : TE} {k : Nat} {p1 p2 p3 pos : Pos} (he : PE X e te) : PE X (.Subscript e (.Slice none none (some (.UnaryOp .USub (.Constant (.int 1) k p1) p2)) p3) pos) (tRevT X.K te) := by
  refine ⟨fun pins s σ H Q I h => Subscript_ (thn (he.run pins s σ H _ I h) fun v s1 ⟨x, H1, I1, r1, a, xs, ex, hx, q⟩ => ?_)⟩
  subst ex
  cases r1
  have hst : PO X (some (.UnaryOp .USub (.Constant (.int 1) k p1) p2)) (tPart (tUn (rU fun i => .int (-i)) (tC (.int 1)))) := po_some (pe_un un_neg pe_int)
  refine wpAny_Slice (thn (po_none.run pins s1 σ H1 (fun o H2 => o = none ∧ H2 = H1) I1 ⟨rfl, rfl⟩) fun vl s2 ⟨l, H2, I2, pl, el, e2⟩ => ?_)
  subst el e2
  refine thn (po_none.run pins s2 σ H2 (fun o H3 => o = none ∧ H3 = H2) I2 ⟨rfl, rfl⟩) fun vu s3 ⟨u, H3, I3, pu, eu, e3⟩ => ?_
  subst eu e3
  refine thn (hst.run pins s3 σ H3 (fun o H4 => o = some (-1) ∧ H4 = H3) I3 ⟨1, rfl, -1, rfl, rfl, rfl⟩) fun vs s4 ⟨o, H4, I4, ps, eo, e4⟩ => ?_
  subst eo e4
  cases pl
  cases pu
  have I5 : Inv X pins σ H4 { s4 with heap := s4.heap.push { cls := .type "slice", data := .fields #[.none, .none, vs] } } := I4.kept (t' := s4.toks) fun b ob q => Heap.get?_push_of_some _ q
  obtain ⟨its, r, ht, hz⟩ := I5.tuple hx
  have hlen := r.length
  show wpAny (model X.prog X.w) X.A (subscriptTail e (.Slice none none (some (.UnaryOp .USub (.Constant (.int 1) k p1) p2)) p3) (.ref a) (.ref s4.heap.objs.size)) (EP X pins σ Q) X.xe { s4 with heap := s4.heap.push { cls := .type "slice", data := .fields #[.none, .none, vs] } }
  refine tail_any (ops := [.ref a, .ref s4.heap.objs.size]) ht.typeIs (PyProof.Rows.slot_tuple_getitem.lookup) ?_ (by with_unfolding_all rfl)
  refine HT.sim_getItem_rev ht (Heap.IsSliceOf.new _ .none .none vs) ps ?_ (by rw [List.size_toArray]; omega)
  refine ⟨.ref _, _, I5.laid (t' := s4.toks) (o := .tup xs.reverse) (fun b ob q => Heap.get?_push_of_some _ q) (Nat.le_refl _) ?_, rfl, q _ (I5.hok.fresh (Nat.le_refl _))⟩
  exact ⟨by rw [List.length_reverse]; exact hz, _, r.reverse, IsTup.new _ _⟩
end
end L2
namespace Sim
open PySem L2 PyProof.Rows
section
variable {K : PySem.W.Frag} {Γ : Clss} {E : XK} {ρ ρ1 ρ2 ρ' : List Addr} {H H1 H2 H' : Hp} {μ μ1 : Store} {σ : L2.St} {δ : Dn}
variable {ta : TE} {Fa : EG}
def revTG (a : EG) : EG := fun δ => bnd (a δ) fun d => match d with
  | .tup xs => ret (.tup xs.reverse)
  | _ => stk
theorem RVs.reverse : ∀ {vs : List V} {ds : List D}, RVs K ρ H vs ds → RVs K ρ H vs.reverse ds.reverse
  | _, _, .nil => .nil
  | _, _, .cons h t => by rw [List.reverse_cons, List.reverse_cons]; exact (RVs.reverse t).snoc h
theorem sim_revT (ha : SimE K Γ E ta Fa) : SimE K Γ E (tRevT K ta) (revTG Fa) := fun ρ μ δ σ H S e Q hp => by
  refine ha.go S e hp fun v d ρ1 μ1 H1 x1 S1 r1 hp1 => ?_
  cases r1 with
  | @tup a xs ds h1 l1 t1 =>
    refine ⟨a, xs, rfl, h1, fun p hn => ?_⟩
    have x2 : Ext ρ1 H1 ρ1 (upd H1 p (.tup xs.reverse)) := Ext.new hn
    exact hp1 _ ρ1 _ x2 (S1.new hn) (.tup (.inl (.inl upd_same)) (by rw [List.length_reverse]; exact l1) (t1.ext x2).reverse)
  | _ => exact hp1.elim
end
end Sim
namespace Sim
open PySem L2 PyProof.Rows
/-- .. called by keywords alone -/
def DefNK (P : Program) (w : World) (K : PySem.W.Frag) (Γ : Clss) (mg : Str → Option Value) (base : Heap) (k : Nat) (f : Addr) (ps ks : List Str) (n : Nat) (p : List Nat) (F : Fn) : Prop :=
  ∃ fd : FuncData, FnOk P w K mg base CX0 k f fd ps (spN K Γ ps.length F) ∧ KBinds K fd ps ks (kpG n p) (kpG n p)
theorem spN_stuck {P : Program} {w : World} {K : PySem.W.Frag} {Γ : Clss} {mg : Str → Option Value} {base : Heap} {k : Nat} {f : Addr} {fd : FuncData} {ps : List Str} : FnOk P w K mg base CX0 k f fd ps (spN K Γ ps.length fun _ _ => .stuck) :=
  ⟨fun vs H Q E h => h.1, fun A outer s H args us vs Q E _ _ _ _ h => by
    obtain ⟨_, _, _, _, _, _, hp⟩ := h
    exact hp.elim⟩
end Sim

set_option autoImplicit false
/-! sorted(list of tuples of ints). -/
namespace L2
open PySem PySem.Spec PyProof.Rows
theorem sim_vals_refs : ∀ {L : List (Addr × List Int)} {us : List Value}, Vals (L.map fun q => V.ref q.1) us → us = L.map fun q => Value.ref q.1
  | [], _, .nil => rfl
  | q :: L, _, .cons h t => by
    rw [sim_vals_refs t]
    obtain rfl := (show _ = Value.ref q.1 from h)
    rfl
section
variable {X : Cx}
def rSortedTL (K : PySem.W.Frag) : List V → Hp → VK → Prop := fun vs H Q => ∃ (a : Addr) (L : List (Addr × List Int)), vs = [V.ref a] ∧ SqL K H a (L.map fun q => V.ref q.1) ∧ (∀ p ∈ L, SqT K H p.1 (p.2.map V.int)) ∧ L.length ≤ sizeLine ∧ ((∀ q ∈ L, q.2 ≠ []) ∨ L.length ≤ 1) ∧
  ∀ (L' : List (Addr × List Int)) (p : Addr), L'.Perm L → L'.Pairwise (fun q r => q.2 ≤ r.2) → H p = none → Q (.ref p) (upd H p (.lst (L'.map fun q => V.ref q.1)))
theorem cr_sortedTL (hu : X.A.units + 64 < cLine) : CallR X (.builtin "sorted") (rSortedTL X.K) := by
  intro pins s σ H vs us Q I r h
  obtain ⟨a, L, rfl, ha, hk, hL, hne, q⟩ := h
  obtain ⟨its, rv, hl, hz⟩ := I.list ha
  have e := sim_vals_refs rv
  subst e
  rw [Vals.ref1 r]
  by_cases h1 : L.length ≤ 1
  · refine SrtO.sorted_ord SrtO.swo_int hl.isList (by rw [List.length_map]; exact hL) (fun h2 => absurd h2 (by rw [List.length_map]; omega)) fun out p1 p2 => ?_
    obtain ⟨L', pL, e'⟩ := sim_perm_lift p2.perm L rfl
    obtain ⟨ep, he'⟩ := PyProof.Rows.sortedAll_at s.heap (L.map fun q => Value.ref q.1) out.toArray
    have hlen : (L'.map fun q => V.ref q.1).length ≤ sizeLine := by
      rw [List.length_map, pL.length_eq]; exact hL
    have hp : L'.Pairwise (fun q r => q.2 ≤ r.2) := by
      have hl : L'.length ≤ 1 := by rw [pL.length_eq]; exact h1
      cases L' with
      | nil => exact List.Pairwise.nil
      | cons q L' =>
        cases L' with
        | nil => exact List.pairwise_singleton _ _
        | cons _ _ => simp at hl
    exact ⟨.ref _, upd H (s.heap.objs.size + 1) (.lst (L'.map fun q => V.ref q.1)), I.laid (t' := s.toks) (fun _ _ => PyProof.Rows.sortedAll_old) (Nat.le_succ _) ⟨hlen, out, ep, by rw [e']; exact vals_of_refs _, he'⟩, rfl, q _ _ pL hp (I.hok.fresh (Nat.le_succ _))⟩
  · have hn := hne.resolve_right h1
    have er : PySem.W.EachIs (fun v (q : Addr × List Int) => ∃ as, Reads s.heap v (PyData.tuple (q.2.map .int)) as) (L.map fun q => Value.ref q.1) L := by
      have z : ∀ M : List (Addr × List Int), (∀ q ∈ M, SqT X.K H q.1 (q.2.map V.int)) → PySem.W.EachIs (fun v (q : Addr × List Int) => ∃ as, Reads s.heap v (PyData.tuple (q.2.map .int)) as) (M.map fun q => Value.ref q.1) M := by
        intro M
        induction M with
        | nil => intro _; exact .nil
        | cons q M ih => intro hm; exact .cons ⟨[], reads_tup (I.isT (hm q List.mem_cons_self))⟩ (ih fun r hr => hm r (List.mem_cons_of_mem _ hr))
      exact z L hk
    refine PySem.W.sorted_data (enc := fun q : Addr × List Int => PyData.tuple (q.2.map .int)) hl.isList (each_refs L) er (PySem.W.AllAlike.of fun b b' => by
        show PySem.W.alike (.tuple _) (.tuple _) = true
        rw [PySem.W.alike]
        exact PySem.W.alike_ints _ _) ?_ hL (fun b _ => ?_) fun out ho eo => ?_
    · refine .inl fun d hd => ?_
      obtain ⟨q, hq, rfl⟩ := List.mem_map.mp hd
      cases e : q.2 with
      | nil => exact absurd e (hn q hq)
      | cons x r => exact ⟨.int x, r.map .int, rfl⟩
    · have z : (PyData.tuple (b.2.map .int)).depth ≤ 1 := by
        rw [PyData.depth, PySem.W.depth_ints]; omega
      omega
    · rw [dataLe_tups] at eo
      have eo' := refs_each eo
      obtain ⟨ep, he'⟩ := PyProof.Rows.sortedAll_at s.heap (L.map fun q => Value.ref q.1) out.toArray
      have pm := List.mergeSort_perm L tupLe
      have hlen : ((L.mergeSort tupLe).map fun q => V.ref q.1).length ≤ sizeLine := by
        rw [List.length_map, pm.length_eq]; exact hL
      exact ⟨.ref _, upd H (s.heap.objs.size + 1) (.lst ((L.mergeSort tupLe).map fun q => V.ref q.1)), I.laid (t' := s.toks) (fun _ _ => PyProof.Rows.sortedAll_old) (Nat.le_succ _) ⟨hlen, out, ep, by rw [eo']; exact vals_of_refs _, he'⟩, rfl, q _ _ pm (tupLe_sorted L) (I.hok.fresh (Nat.le_succ _))⟩
end
end L2
namespace Sim
open PySem L2 PyProof.Rows
section
variable {K : PySem.W.Frag} {Γ : Clss} {E : XK} {ρ ρ1 ρ2 ρ' : List Addr} {H H1 H2 H' : Hp} {μ μ1 : Store} {σ : L2.St} {δ : Dn}
variable {ta tb tc : TE} {Fa Fb Fc : EG} {La Lb : AG}
def sortTC (ds : List D) : Mn (List D) := match unTups ds with
  | some ks => if (∀ k ∈ ks, k ≠ []) ∨ ks.length ≤ 1 then ret ((sortT ks).map tupI) else stk
  | none => stk
theorem sorted_isT {ks l : List (List Int)} (p : l.Perm ks) (hs : l.Pairwise (· ≤ ·)) : l = sortT ks :=
  (p.trans (sortT_perm ks).symm).eq_of_pairwise (fun a b _ _ h1 h2 => List.le_antisymm h1 h2) hs (sortT_sorted ks)
theorem l_sortT : CaLL K Γ E (rSortedTL K) sortTC := fun H₀ ρ₀ ρ μ H p xs ds Q x S hx hl r hp => by
  unfold sortTC at hp
  cases h : unTups ds with
  | none => simp only [h] at hp; exact hp.elim
  | some ks =>
    simp only [h] at hp
    by_cases hc : (∀ k ∈ ks, k ≠ []) ∨ ks.length ≤ 1
    · simp only [if_pos hc] at hp
      have e := unTups_some h
      subst e
      obtain ⟨as, rfl, e2, has⟩ := r.tups
      have hlen : as.length = ks.length := by rw [← e2, List.length_map]
      refine ⟨p, as, rfl, hx, fun q hq => (has q hq).1, by rw [List.length_map] at hl; exact hl, ?_, fun L' l pm so hn => ?_⟩
      · rcases hc with z | z
        · exact .inl fun q hq => z q.2 (by rw [← e2]; exact List.mem_map.mpr ⟨q, hq, rfl⟩)
        · exact .inr (by rw [hlen]; exact z)
      · have e : L'.map (·.2) = sortT ks := sorted_isT (by rw [← e2]; exact pm.map _) (List.pairwise_map.mpr so)
        have x2 : Ext ρ H ρ (upd H l (.lst (L'.map fun q => V.ref q.1))) := Ext.new hn
        refine hp (.ref l) ρ _ x2 (S.new hn) ⟨l, _, rfl, x.there l hn, S.fresh hn, upd_same, by rw [List.length_map, pm.length_eq]; rw [List.length_map] at hl; exact hl, ?_⟩
        rw [← e]
        exact RVs.ofTups fun q hq => ⟨x2.sqT (has q (pm.mem_iff.mp hq)).1, (has q (pm.mem_iff.mp hq)).2⟩
    · simp only [if_neg hc] at hp; exact hp.elim
end
end Sim

set_option autoImplicit false
/-! Sim: defs that raise. -/
namespace Sim
open PySem L2 PyProof.Rows
section
variable {K : PySem.W.Frag} {Γ : Clss} {E : XK} {ρ ρ1 ρ2 ρ' : List Addr} {H H1 H2 H' : Hp} {μ μ1 : Store} {σ : L2.St} {δ : Dn}
variable {ta tb tc : TE} {Fa Fb Fc : EG} {La Lb : AG}
/-- a def's promise: it does what F says; what it raises goes to E -/
def spX (K : PySem.W.Frag) (Γ : Clss) (k : Nat) (F : Fn) : Sp := fun vs H Q E => vs.length = k ∧ ∃ (ρ : List Addr) (μ : Store) (ds : List D), SR K Γ ρ μ H ∧ RVs K ρ H vs ds ∧ Post K Γ E (RV K) ρ H (F ds μ) Q
/-- a call that must not raise -/
def noex (F : Fn) : Fn := fun ds μ => match F ds μ with
  | .ex _ _ => .stuck
  | r => r
theorem noex_ok {F : Fn} {ds : List D} {d : D} {μ' : Store} (h : F ds μ = .ok d μ') : noex F ds μ = .ok d μ' := by
  unfold noex
  rw [h]
theorem noex_post {F : Fn} {ds : List D} {Q : VK} (h : Post K Γ E (RV K) ρ H (noex F ds μ) Q) : Post K Γ E0 (RV K) ρ H (F ds μ) Q := by
  unfold noex at h
  cases e : F ds μ with
  | ok d μ' => rw [e] at h; exact h
  | ex x μ' => rw [e] at h; exact h.elim
  | stuck => rw [e] at h; exact h.elim
theorem sim_callNX {k : Nat} {F : Fn} {t : TA} (ha : SimA K Γ E t La) (hk : ∀ δ μ ds μ', La δ μ = .ok ds μ' → ds.length = k) : SimE K Γ E (tCall (spN K Γ k F) [] E0 t) (callG (noex F) La) := fun ρ μ δ σ H S e Q hp => by
  unfold callG bnd at hp
  refine ha ρ μ δ σ H S e _ ?_
  cases h : La δ μ with
  | ex y μ' => rw [h] at hp; exact hp
  | stuck => rw [h] at hp; exact hp.elim
  | ok ds μ' =>
    rw [h] at hp
    intro vs ρ' H' x s r
    rw [List.append_nil]
    exact ⟨r.length.trans (hk δ μ ds μ' h), ρ', μ', ds, s, r, noex_post (hp.weak x)⟩
theorem sim_callX {k : Nat} {F : Fn} {t : TA} (ha : SimA K Γ E t La) (hk : ∀ δ μ ds μ', La δ μ = .ok ds μ' → ds.length = k) : SimE K Γ E (tCall (spX K Γ k F) [] E t) (callG F La) := fun ρ μ δ σ H S e Q hp => by
  unfold callG bnd at hp
  refine ha ρ μ δ σ H S e _ ?_
  cases h : La δ μ with
  | ex y μ' => rw [h] at hp; exact hp
  | stuck => rw [h] at hp; exact hp.elim
  | ok ds μ' =>
    rw [h] at hp
    intro vs ρ' H' x s r
    rw [List.append_nil]
    exact ⟨r.length.trans (hk δ μ ds μ' h), ρ', μ', ds, s, r, hp.weak x⟩
/-- raise c('..') -/
def raiseG (c : Str) : SG := fun _ μ => .ex ⟨c, []⟩ μ
theorem ss_raise {c : Str} {C : Addr} (hC : Γ c = some C) : SimS K Γ E (fun _ _ H => E (.ref C) none H) (raiseG c) := fun ρ μ δ σ H S e T hp => hp ρ H C none Ext.refl S hC rfl
end
section
variable {P : Program} {w : World} {K : PySem.W.Frag} {Γ : Clss} {mg : Str → Option Value} {base : Heap}
theorem def_fnX {x qual : Str} {st : Stmt} {f : Addr} {fd : FuncData} {N ps : List Str} {k : Nat} {F : Fn} {G : SG} (Fu : Fun K x qual st f fd) (S : FnScope N ps (defScope st))
    (hF : ∀ (ds : List D) (μ : Store) (ρ : List Addr) (H : Hp) (E : XK) (Q : VK), SR K Γ ρ μ H → Post K Γ E (RV K) ρ H (F ds μ) Q → Post K Γ E (RV K) ρ H (fnG N.length G ds μ) Q)
    (hbody : ∀ (cdv : Value) (A : Around) (outer : List Env) (s : Shared) (H : Hp) (E : XK), Room k (A.deeper (envOfC qual (defScope st) s.heap.objs.size f cdv)) → Takes (cxOf (L2.CX P w) P w K mg base N qual (defScope st) f cdv A outer s H E) (fun cls d _ H => E cls d H) →
      ∃ t, PSs (cxOf (L2.CX P w) P w K mg base N qual (defScope st) f cdv A outer s H E) (defBody st) t ∧ SimS K Γ E t G) : FnOk P w K mg base (L2.CX P w) (k + 1) f fd ps (spX K Γ ps.length F) := by
  obtain ⟨oc, od, kV, doc, pm, an, cdv, ct, osl, rfl, lk, hcd⟩ := Fu.ex
  refine fn_of lk hcd S (fun vs H Q E h => h.1) fun A outer s H vs Q E hr hsp => ?_
  obtain ⟨_, ρ, μ, ds, S', r, hp⟩ := hsp
  obtain ⟨t, h1, h2⟩ := hbody cdv A outer s H E hr (takes_of rfl rfl rfl rfl)
  exact ⟨t, h1, body_ok S' r h2 (hF ds μ ρ H E Q S' hp)⟩
def DefX (P : Program) (w : World) (K : PySem.W.Frag) (Γ : Clss) (mg : Str → Option Value) (base : Heap) (k : Nat) (f : Addr) (ps : List Str) (F : Fn) : Prop :=
  ∃ fd : FuncData, FnOk P w K mg base (L2.CX P w) k f fd ps (spX K Γ ps.length F) ∧ Binds K fd ps []
/-- what an own error class must be, so that it may be raised -/
structure ExcT (K : PySem.W.Frag) (C : Addr) (bmB : List Value) (newId : String) : Prop where
  q : PySem.W.excIn K C bmB newId = true
  kp : PySem.W.keepIn K (.ref C) = true
  sub : PySem.W.subIn K (.ref C) (.type "BaseException") = some true
  ty : PySem.W.typeIn K (.ref C) = some (.type "type")
theorem ps_raiseX {X : Cx} {E : XK} {x m : Str} {j : Nat} {p p2 pos pos' : Pos} {C : Addr} {bmB : List Value} {B newId initId : String} (hc : X.calm = true) (tk : Takes X (fun cls d _ H => E cls d H)) (F : ExcBaseFacts B newId initId bmB) (T : ExcT X.K C bmB newId) (gC : X.mg x = some (.ref C)) (hg : Gl X x)
    (hdb : (x == ("__debug__" : Str)) = false := by decide) : PS X (.Raise (some (.Call (.Name x p) [.Constant (.str m) j p2] [] pos)) none pos') (fun _ _ H => E (.ref C) none H) :=
  ps_raise (W := fun cls d _ H => E cls d H) hc tk (pmk_own F T.q gC T.kp (raises_own T.sub T.ty) hg hdb)
end
end Sim

set_option autoImplicit false
set_option maxHeartbeats 2000000
/-! Sim: a caught exception that is kept. -/
namespace L2
open PySem PySem.Spec PyProof.Rows
/-- an exception's object of the class cls -/
def ExcF (a : Addr) (cls : Value) (d : Option Addr) : Heap → Prop := fun h => ∃ oe vs, h.get? a = some oe ∧ Zc cls d oe ∧ oe.data = .fields vs
def ExcH (a : Addr) (cls : Value) (d : Option Addr) : HO := .ext (ExcF a cls d)
theorem excF_steady {a : Addr} {cls : Value} {d : Option Addr} : ∀ h1 h2 : Heap, ExcF a cls d h1 → (∀ o, h1.get? a = some o → h2.get? a = some o) → ExcF a cls d h2 := fun _ _ ⟨oe, vs, e, z, f⟩ k => ⟨oe, vs, k _ e, z, f⟩
section
variable {X : Cx} {pins : List (Addr × Obj)} {σ : St} {H : Hp} {s s' sI : Shared} {B : Heap}
/-- back on the ground, the exception known from now on -/
theorem Inv.landedK (I : Inv X pins σ H sI) (nb : ∀ b o, sI.heap.get? b = some o → b ∉ frs X.stack → B.get? b = some o) (st : B.StaysIn s'.heap) (up : sI.heap.UpToSlots s'.heap) (os : s'.os = sI.os) (ag : AllBare s'.gens)
    {a : Addr} {cls : Value} {d : Option Addr} (h0 : sI.heap.get? a = none) (na : H a = none) (hf : ExcF a cls d s'.heap) : Inv X pins σ (upd H a (ExcH a cls d)) s' := by
  have old : ∀ {b : Addr} {u : HO}, H b = some u → upd H a (ExcH a cls d) b = some u := fun q => by rw [upd_ne (ne_of_none q na)]; exact q
  have frame : ∀ b ∈ frs X.stack, ∀ o, sI.heap.get? b = some o → ∃ sl, s'.heap.get? b = some { o with slots := sl } := fun b hb o q => by
    have ⟨_, u, qu, nofld⟩ := I.stack.mem hb
    have := Option.some.inj (q.symm.trans qu)
    subst this
    exact up b o q nofld
  have hok : HOk X.prog X.w (upd H a (ExcH a cls d)) s'.heap := fun b u q => by
    by_cases hb : b = a
    · subst hb
      rw [upd_same] at q
      cases q
      exact ⟨hf, hf.elim fun oe z => z.elim fun _ z => ⟨oe, z.1⟩, excF_steady⟩
    · rw [upd_ne hb] at q
      exact ((I.inGround nb).kept st b u q).stay (fun _ _ _ z => z) (fun _ z => old z) fun _ _ z => old z
  have un : Un (frs X.stack) [] H (upd H a (ExcH a cls d)) sI.heap s'.heap := by
    refine ⟨fun b o q _ hb _ => st b o (nb b o q hb), fun b o q _ hb _ => frame b hb o q, fun b o q n _ => ?_, fun b o q _ => ?_, fun _ _ z => old z, fun _ _ _ z => old z, fun b ps z => ⟨#[], by rw [old z]; simp⟩⟩
    · rw [upd_ne fun z => by rw [z, h0] at q; cases q]; exact n
    · by_cases hb : b ∈ frs X.stack
      · exact (frame b hb o q).elim fun _ z => ⟨_, z⟩
      · exact ⟨o, st b o (nb b o q hb)⟩
  have J := I.call (t' := s'.toks) (d' := s'.drawn) un hok ag (fun _ z => nomatch z)
  cases s'
  cases (show _ = sI.os from os)
  exact J
theorem Inv.suiteK (I : Inv X pins σ H s) (a : Addr) : Inv (X.suite a (X.pn ++ pins)) [] σ H s :=
  ⟨I.ok.suite _ _, I.os, I.bare, I.base, I.loc, I.cell, I.free, I.freeC, fun p hp => I.pin p (by rw [List.append_nil] at hp; exact hp), I.hok, I.len⟩
theorem Inv.unsuiteK {a : Addr} {pn' : List (Addr × Obj)} (I : Inv (X.suite a (X.pn ++ pins)) pn' σ H s) (ok : X.Ok) : Inv X pins σ H s :=
  ⟨ok, I.os, I.bare, I.base, I.loc, I.cell, I.free, I.freeC, fun p hp => I.pin p (List.mem_append_left _ hp), I.hok, I.len⟩
end
/-- what the clause wishes; the exception's object is known from then on -/
def wKeep (K : PySem.W.Frag) (c : Value) (i : Nat) (ts : Addr → TS) (D : Ends) : WX := fun cls d σ H =>
  PySem.W.exmOne K cls c = some true ∧ ∀ a, H a = none → ts a { nx := fun σ' H' => D.nx (σ'.set i none) H', rt := D.rt, bk := fun σ' H' => D.bk (σ'.set i none) H', ct := fun σ' H' => D.ct (σ'.set i none) H' } (σ.set i (some (.ref a))) (upd H a (ExcH a cls d))
section
variable {X : Cx} {pins : List (Addr × Obj)} {x n : Str} {c : Value} {i : Nat} {suite : List Stmt} {b₀ : Stmt} {np pos pos' : Pos} {ts : Addr → TS} {D : Ends}
/-- the address of a record is no frame's -/
theorem rec_no_frame {G h : Heap} {l : List Env} {p : Addr} {op : Obj} {fs : Array Value} (ff : h.FunFrames G l) (e : h.get? p = some op) (f : op.data = .fields fs) : p ∉ frs l := fun z => by
  have ⟨_, oq, eq, nf⟩ := ff.mem z
  have := Option.some.inj (e.symm.trans eq)
  subst this
  exact nf fs f
/-- the clause takes the exception that the body let out -/
theorem keep_take (okX : X.Ok) (hs : X.stack = X.env :: X.outer) (hf : X.env.frame = some X.env.locals) (hN : X.N.Nodup) (hi : X.N[i]? = some n) (hln : X.env.kindOf n = some .local) (hc : Names X x c) (run : ∀ (p : Addr) (pn : List (Addr × Obj)), PSs (X.suite p pn) (b₀ :: suite) (ts p))
    {xe : Value → Shared → Prop} {u : Value} {t : Shared} (air : XE (X.tr (X.pn ++ pins) xe) (wKeep X.K c i ts D) u t) :
    wpAny (model X.prog X.w) X.A (noteFrame u X.env) (fun _ t2 => wpAny (model X.prog X.w) X.A (setFlight u none) (fun _ t3 => wpAny (model X.prog X.w) X.A (handleBy u X.env [.ExceptHandler (some (.Name x np)) (some n) (b₀ :: suite) pos']) (SP X pins D) X.xe t3) X.xe t2) X.xe t := by
  obtain ⟨p, G, t0, qs, σ1, H1, cls, d, rfl, I0, ground, ups, sky, fresh, same, bare, takes, wish⟩ := air
  have I1 := I0.ofTry okX
  have frames : X.A.frames = some (X.env :: X.outer) := by rw [okX.frames, hs]
  refine Sky.land (B := G) Zc.steady frames hf (by rw [← hs]; exact sky) fun g3 fly3 up3 => ?_
  have I3 : Inv X pins σ1 H1 { t with heap := g3 } := I1.landed ground fly3.1 (ups.trans up3) same bare
  obtain ⟨o3, f3, at3, cls3, dat3⟩ := fly3.there
  have away := rec_no_frame fly3.2.2.1 at3 dat3
  have S3 := I3.suite at3 dat3 fresh (fun z => away (List.mem_filterMap.mpr ⟨X.env, by simp, by rw [hf, z]⟩)) fun z => by
    obtain ⟨v, hv, e⟩ := List.mem_filterMap.mp z
    exact away (List.mem_filterMap.mpr ⟨v, List.mem_cons_of_mem _ hv, e⟩)
  have ty : PySem.W.Looks (model X.prog X.w) g3 (typeOf (.ref p)) cls := fun _ _ _ _ k z => wpAny_typeOf_ref (k _ _ at3) (by rw [cls3.1]; exact z)
  have yes := PySem.W.exm_one (M := model X.prog X.w) I3.kIn ty takes
  refine wpAny_handleBy_cons (codeAny_handlers_test ?_) (fun z => nomatch z)
  have named : ∀ {R : Value → Shared → Prop} {F : Value → Shared → Prop}, R c { t with heap := g3 } → wpAny (model X.prog X.w) (X.A.mark (some (.ref p))) (eval (.Name x np) X.env) R F { t with heap := g3 } := fun {R F} z => by
    rcases hc with ⟨glob, dbg, m | ⟨m, b, nm⟩⟩
    · exact ld_glob (X := X.suite p ((p, o3) :: (X.pn ++ pins))) S3 glob m z dbg
    · exact ld_blt (X := X.suite p ((p, o3) :: (X.pn ++ pins))) S3 glob m b z nm dbg
  refine named (yes.here (codeAny_handlers_suite_as (HandSPX.lands_againZ fly3 fun g4 fly4 up4 => ?_)))
  have gone : t0.heap.get? p = none := by
    cases z : t0.heap.get? p with
    | none => rfl
    | some o => exact absurd ((ground p o z (by rw [hs]; exact away)).symm.trans fly4.2.1) (fun z => nomatch z)
  have I4 : Inv X pins σ1 (upd H1 p (ExcH p cls d)) { t with heap := g4 } := I1.landedK (s' := { t with heap := g4 }) ground fly4.1 ((ups.trans up3).trans up4) same bare gone fresh (by
    obtain ⟨o4, f4, at4, cls4, dat4⟩ := fly4.there
    exact ⟨o4, f4, at4, cls4, dat4⟩)
  refine store_ok (X := X.suite p (X.pn ++ pins)) (v := .ref p) (I4.suiteK p) hN hi (.inl hln) rfl (fun t5 I5 => ?_) (.inr hln)
  refine wpAny_mono ((run p (X.pn ++ pins)).run [] t5 _ _ _ I5 (wish p fresh)) (fun fl t6 z => ?_) fun _ _ z => z.elim
  have drop : ∀ {σ6 : St} {H6 : Hp} {R : Shared → Prop}, Inv (X.suite p (X.pn ++ pins)) [] σ6 H6 t6 → (∀ t7, Inv X pins (σ6.set i none) H6 t7 → R t7) → wpAny (model X.prog X.w) X.A (do bindName X.env n .none; unbindBehindTheSuite X.env n pos') (fun _ t7 => R t7) X.xe t6 := fun I6 k => gone_ok (I6.unsuiteK okX) hN hi hln k
  cases fl with
  | ret v =>
    obtain ⟨v6, σ6, H6, I6, r6, w6⟩ := z
    exact drop I6 fun t7 I7 => ⟨_, _, _, I7, r6, w6⟩
  | next =>
    obtain ⟨σ6, H6, I6, w6⟩ := z
    exact drop I6 fun t7 I7 => ⟨_, _, I7, w6⟩
  | brk =>
    obtain ⟨σ6, H6, I6, w6⟩ := z
    exact drop I6 fun t7 I7 => ⟨_, _, I7, w6⟩
  | cont =>
    obtain ⟨σ6, H6, I6, w6⟩ := z
    exact drop I6 fun t7 I7 => ⟨_, _, I7, w6⟩
/-- try: body / except x as n: suite, the exception's object known from then on -/
theorem ps_try_keep {body : List Stmt} {tb : WX → TS} {pos : Pos} (hs : X.stack = X.env :: X.outer) (hf : X.env.frame = some X.env.locals) (hN : X.N.Nodup) (hi : X.N[i]? = some n) (hln : X.env.kindOf n = some .local) (hc : Names X x c)
    (hb : ∀ (W : WX) (pn : List (Addr × Obj)) (xe : Value → Shared → Prop), Takes (X.tr pn xe) W → PassesOwn (model X.prog X.w) X.A X.env xe → PSs (X.tr pn xe) body (tb W)) (run : ∀ (p : Addr) (pn : List (Addr × Obj)), PSs (X.suite p pn) (b₀ :: suite) (ts p)) :
    PS X (.Try body [.ExceptHandler (some (.Name x np)) (some n) (b₀ :: suite) pos'] [] [] pos) (fun D σ H => tb (wKeep X.K c i ts D) D σ H) := by
  constructor
  intro qs t σ0 H0 D I0 w0
  have okX := I0.ok
  refine wpAny_Try_except (wpAny_mono ((hb (wKeep X.K c i ts D) (X.pn ++ qs) _ (fun u t1 air => keep_take okX hs hf hN hi hln hc run air) PassesOwn.looking).run [] t σ0 H0 D (I0.toTry _) w0) (fun fl t1 z => ?_) fun _ _ z => z)
  cases fl with
  | ret v =>
    obtain ⟨v1, σ1, H1, I1, r1, w1⟩ := z
    exact ⟨v1, σ1, H1, I1.ofTry okX, r1, w1⟩
  | next =>
    obtain ⟨σ1, H1, I1, w1⟩ := z
    exact wpAny_execs_nil ⟨σ1, H1, I1.ofTry okX, w1⟩
  | brk =>
    obtain ⟨σ1, H1, I1, w1⟩ := z
    exact ⟨σ1, H1, I1.ofTry okX, w1⟩
  | cont =>
    obtain ⟨σ1, H1, I1, w1⟩ := z
    exact ⟨σ1, H1, I1.ofTry okX, w1⟩
end
end L2

set_option autoImplicit false
set_option maxHeartbeats 2000000
/-! Sim: lambdas handed to a def, with no default or one. -/
namespace LamX
open PySem PySem.Spec PyProof.Rows L2
/-- all but the tables stay, and what is there now was there, or is new -/
def Grow (H H1 : Hp) : Prop := ExtN H H1 ∧ ∀ b, H1 b = none → H b = none
theorem Grow.refl (H : Hp) : Grow H H := ⟨ExtN.refl H, fun _ h => h⟩
theorem Grow.trans {H H1 H2 : Hp} (a : Grow H H1) (b : Grow H1 H2) : Grow H H2 := ⟨a.1.trans b.1, fun c h => a.2 c (b.2 c h)⟩
section
variable {X : Cx} {pins : List (Addr × Obj)} {σ : L2.St} {H : Hp} {s : Shared}
/-- the lambda is made: its code object is new, or found in the table -/
theorem lam_tail {T : List (Addr × Str)} {c P : Addr} {params : Arguments} {body : Expr} {scope : Scope} {pos : Pos} {dV : Value} {E : Value → Shared → Prop} {Q : Value → Shared → Prop} (I : Inv X pins σ H s) (TB : TabB X.base X.mg c P) (hcode : X.env.code = .ref c)
    (hm : (P, X.env.qual ++ "<lambda>") ∈ T) (hu : ∀ p ∈ T, p.1 = P → p.2 = X.env.qual ++ "<lambda>") (hT : Tabs T H) (hfree : ∀ y ∈ scope.names, y.2 = .free → ∃ c, X.env.cells.lookup y.1 = some c)
    (h : ∀ (f c' : Addr) (pm ctv doc : Value) (H1 : Hp) (s' : Shared), Inv X pins σ H1 s' → Grow H H1 → Tabs T H1 →
      s'.heap.get? f = some (PySem.W.kdv_obj "<lambda>" (X.env.qual ++ "<lambda>") params (.expr body) scope (cloFrom X.env.cells scope.names []) dV doc pm c' ctv) → H1 f = none → f ∉ frs X.stack → H1 c' = some (CodeO c' (X.env.qual ++ "<lambda>")) →
      (∀ b o, s.heap.get? b = some o → H b = none → s'.heap.get? b = some o ∧ H1 b = none) → Q (.ref f) s') :
    wpAny (model X.prog X.w) X.A (makeTail "<lambda>" (X.env.qual ++ "<lambda>") params (.expr body) scope X.env dV .none none pos pos.line) Q E s := by
  obtain ⟨ps, hP, ht, ha⟩ := hT _ hm
  have bP : s.heap.BuiltinsAt X.mg P := TB.bm.keeps I.bk
  have hP' : s.heap.get? P = some { cls := .none, data := .fields ps } := I.hok P _ hP
  have nofr : ∀ f, s.heap.objs.size ≤ f → f ∉ frs X.stack := fun f hf z => by
    rcases List.mem_cons.mp (I.stkSub _ z) with e | e
    · have h1 := I.lt
      rw [← e] at h1
      exact Nat.lt_irrefl _ (Nat.lt_of_lt_of_le h1 hf)
    · exact I.nofs hf e
  cases hc : codeAmong pos ps.toList with
  | none =>
    refine PySem.W.kdv_makeTail (mg := X.mg) (c := c) (P := P) (ps := ps) (closure_ok hfree) I.ok.glob (I.mod.glob.keeps I.bk) hcode (TB.code.keeps I.bk) hP' ht hc TB.gP bP fun c' ctv doc h' tk hx hge hlt hrec htb => ?_
    obtain ⟨c2, oc, vs, t, e2, hoc, hd, hv⟩ := hrec
    cases e2
    have hsz : s.heap.objs.size ≤ h'.objs.size := Nat.le_trans hge (Nat.le_of_lt hlt)
    have nC : H c' = none := I.hok.fresh hge
    have I1 := inv_table (t' := tk) (more := #[rawInt pos.line, rawInt pos.col, .ref c']) (h' := h'.push (PySem.W.kdv_obj "<lambda>" (X.env.qual ++ "<lambda>") params (.expr body) scope (cloFrom X.env.cells scope.names []) dV doc ((X.mg "__name__").getD .none) c' ctv)) I hP
      (fun b o hb e => Heap.get?_push_of_some _ (hx b o hb e)) (Heap.get?_push_of_some _ htb) hge ⟨oc, vs, t, Heap.get?_push_of_some _ hoc, hd, hv⟩
    have hE : ExtN H (upd (upd H P (.tbl (ps ++ #[rawInt pos.line, rawInt pos.col, .ref c']))) c' (CodeO c' (X.env.qual ++ "<lambda>"))) := fun b o e n => by
      rw [upd_ne (ne_of_none e nC), upd_ne (fun z => n ps (Option.some.inj (e.symm.trans (by rw [z]; exact hP))))]
      exact e
    have hG : ∀ b, upd (upd H P (.tbl (ps ++ #[rawInt pos.line, rawInt pos.col, .ref c']))) c' (CodeO c' (X.env.qual ++ "<lambda>")) b = none → H b = none := fun b e => by
      by_cases h1 : b = c'
      · rw [h1, upd_same] at e; cases e
      · rw [upd_ne h1] at e
        by_cases h2 : b = P
        · rw [h2, upd_same] at e; cases e
        · rw [upd_ne h2] at e; exact e
    have eL : (ps ++ #[rawInt pos.line, rawInt pos.col, .ref c']).toList = ps.toList ++ [rawInt pos.line, rawInt pos.col, .ref c'] := by simp
    refine h h'.objs.size c' ((X.mg "__name__").getD .none) ctv doc _ _ I1 ⟨hE, hG⟩ (fun p hp => ?_) (Heap.get?_push_size _ rfl) ?_ (nofr _ hsz) upd_same fun b o e n => ⟨Heap.get?_push_of_some _ (hx b o (fun z => by rw [z, hP] at n; cases n) e), ?_⟩
    · by_cases hb : p.1 = P
      · rw [hu p hp hb, hb]
        refine ⟨_, by rw [upd_ne (ne_of_none hP nC), upd_same], by rw [eL]; exact PySem.TriplesOk_snoc _ _ _ _ ht, fun p' cv hcv => ?_⟩
        rw [eL] at hcv
        rcases among_app _ ht hcv with z | z
        · obtain ⟨c0, e1, e2⟩ := ha p' cv z
          exact ⟨c0, e1, hE _ _ e2 codeO_ne⟩
        · exact ⟨c', z, upd_same⟩
      · obtain ⟨ps', a1, a2, a3⟩ := hT p hp
        refine ⟨ps', by rw [upd_ne (ne_of_none a1 nC), upd_ne hb]; exact a1, a2, fun p' cv hcv => ?_⟩
        obtain ⟨c0, e1, e2⟩ := a3 p' cv hcv
        exact ⟨c0, e1, hE _ _ e2 codeO_ne⟩
    · have n1 : h'.objs.size ≠ c' := Nat.ne_of_gt hlt
      have n2 : h'.objs.size ≠ P := Nat.ne_of_gt (Nat.lt_of_lt_of_le (Heap.lt_size hP') hsz)
      rw [upd_ne n1, upd_ne n2]
      exact I.hok.fresh hsz
    · have n1 : b ≠ c' := Nat.ne_of_lt (Nat.lt_of_lt_of_le (Heap.lt_size e) hge)
      rw [upd_ne n1, upd_ne fun z => by rw [z, hP] at n; cases n]
      exact n
  | some cv =>
    obtain ⟨c', e, hco⟩ := ha pos cv hc
    subst e
    refine PySem.W.kdv_makeTailHit (mg := X.mg) (c := c) (P := P) (ps := ps) (closure_ok hfree) I.ok.glob (I.mod.glob.keeps I.bk) hcode (TB.code.keeps I.bk) hP' ht hc bP fun ctv doc h' tk hx hsz => ?_
    have I1 : Inv X pins σ H { s with heap := h'.push (PySem.W.kdv_obj "<lambda>" (X.env.qual ++ "<lambda>") params (.expr body) scope (cloFrom X.env.cells scope.names []) dV doc ((X.mg "__name__").getD .none) c' ctv), toks := tk } := I.kept fun b o e => Heap.get?_push_of_some _ (hx b o e)
    exact h h'.objs.size c' ((X.mg "__name__").getD .none) ctv doc H _ I1 (Grow.refl H) hT (Heap.get?_push_size _ rfl) (I.hok.fresh hsz) (nofr _ hsz) hco fun b o e n => ⟨Heap.get?_push_of_some _ (hx b o e), n⟩
end
/-- own names of the lambda are none of the outer ones; captured ones and globals -/
structure LamG (N : List Str) (sc scope : Scope) : Prop where
  kind : scope.kind = .function
  co : scope.isCoroutine = false
  gen : scope.isGenerator = false
  own : ∀ y ∈ scope.names, y.2 ≠ .cell ∧ (y.2 = .local → y.1 ∉ N)
  free : ∀ y ∈ scope.names, y.2 = .free → sc.names.lookup y.1 = some .cell ∨ sc.names.lookup y.1 = some .free
def lamGB (N : List Str) (sc scope : Scope) : Bool :=
  decide (scope.kind = .function) && !scope.isCoroutine && !scope.isGenerator && scope.names.all fun y => !decide (y.2 = .cell) && (!decide (y.2 = .local) || !decide (y.1 ∈ N)) && (!decide (y.2 = .free) || decide (sc.names.lookup y.1 = some .cell) || decide (sc.names.lookup y.1 = some .free))
theorem lamG_by {N : List Str} {sc scope : Scope} (h : lamGB N sc scope = true) : LamG N sc scope := by
  unfold lamGB at h
  simp only [Bool.and_eq_true, Bool.or_eq_true, Bool.not_eq_true', decide_eq_true_eq, decide_eq_false_iff_not, List.all_eq_true] at h
  obtain ⟨⟨⟨h1, h2⟩, h3⟩, h4⟩ := h
  refine ⟨h1, h2, h3, fun y hy => ⟨(h4 y hy).1.1, fun e => ?_⟩, fun y hy e => ?_⟩
  · rcases (h4 y hy).1.2 with z | z
    · exact absurd e z
    · exact z
  · rcases (h4 y hy).2 with (z | z) | z
    · exact absurd e z
    · exact .inl z
    · exact .inr z
theorem LamG.has {X : Cx} {scope : Scope} (L : LamG X.N X.env.scope scope) (ok : X.Ok) : ∀ y ∈ scope.names, y.2 = .free → ∃ c, X.env.cells.lookup y.1 = some c := fun y hy e => by
  rcases L.free y hy e with k | k
  · exact ok.has _ (.inl k)
  · exact ok.has _ (.inr k)
/-- the lambda's making: a function object that binds to a call without arguments, now and later -/
def LamMk (X : Cx) (T : List (Addr × Str)) (params : Arguments) (body : Expr) (scope : Scope) (pos : Pos) : Prop :=
  ∀ (pins : List (Addr × Obj)) (σ : L2.St) (H : Hp) (s : Shared) (Q E : Value → Shared → Prop), Inv X pins σ H s → Tabs T H →
    (∀ (f c' : Addr) (dV pm ctv doc : Value) (binds : List (Str × Value)) (H1 : Hp) (s' : Shared), Inv X pins σ H1 s' → Grow H H1 → Tabs T H1 →
      s'.heap.get? f = some (PySem.W.kdv_obj "<lambda>" (X.env.qual ++ "<lambda>") params (.expr body) scope (cloFrom X.env.cells scope.names []) dV doc pm c' ctv) → H1 f = none → f ∉ frs X.stack → H1 c' = some (CodeO c' (X.env.qual ++ "<lambda>")) →
      (∀ y ∈ binds, scope.names.lookup y.1 = some .local) →
      (∀ s2 : Shared, (∀ b o, s'.heap.get? b = some o → H1 b = none → b ∉ frs X.stack → s2.heap.get? b = some o) → BindsTo s2 (PySem.W.kdv_fn "<lambda>" (X.env.qual ++ "<lambda>") params (.expr body) scope (cloFrom X.env.cells scope.names []) dV doc pm (.ref c') ctv) ⟨[], []⟩ binds) → Q (.ref f) s') →
    wpAny (model X.prog X.w) X.A (eval (.Lambda params body scope pos) X.env) Q E s
section
variable {X : Cx} {T : List (Addr × Str)} {c P : Addr} {params : Arguments} {body : Expr} {scope : Scope} {pos : Pos}
theorem lamMk0 (TB : TabB X.base X.mg c P) (hcode : X.env.code = .ref c) (hm : (P, X.env.qual ++ "<lambda>") ∈ T) (hu : ∀ p ∈ T, p.1 = P → p.2 = X.env.qual ++ "<lambda>") (L : LamG X.N X.env.scope scope)
    (hdef : defaultsOf params X.env = ([], [])) (hbind : ∀ (q : Str) (cl : List (Str × Addr)) (doc pm cv ctv : Value), bindArgs (PySem.W.kdv_fn "<lambda>" q params (.expr body) scope cl .none doc pm cv ctv) ⟨[], []⟩ = pure []) : LamMk X T params body scope pos := by
  intro pins σ H s Q E I hT h
  refine PySem.W.kla_eval hdef ?_
  rw [makeFunction_eq]
  simp only [List.zip_nil_right, List.filterMap_nil, List.isEmpty_nil, if_true, pure_bind]
  exact lam_tail I TB hcode hm hu hT (L.has I.ok) fun f c' pm ctv doc H1 s' I1 g1 t1 hf hfn hfr hc _ => h f c' .none pm ctv doc [] H1 s' I1 g1 t1 hf hfn hfr hc (fun y hy => nomatch hy) fun s2 _ => .of_eq (hbind _ _ _ _ _ _)
theorem lamMk1 {x : Str} {i : Int} {j : Nat} {dp : Pos} (TB : TabB X.base X.mg c P) (hcode : X.env.code = .ref c) (hm : (P, X.env.qual ++ "<lambda>") ∈ T) (hu : ∀ p ∈ T, p.1 = P → p.2 = X.env.qual ++ "<lambda>") (L : LamG X.N X.env.scope scope)
    (hd : params.defaults = [.Constant (.int i) j dp]) (hk : params.kw_defaults = []) (hx : scope.names.lookup x = some .local)
    (hbind : ∀ (q : Str) (cl : List (Str × Addr)) (dV doc pm cv ctv : Value), ∃ k : Option (Array Value) → Sem (List (Str × Value)), bindArgs (PySem.W.kdv_fn "<lambda>" q params (.expr body) scope cl dV doc pm cv ctv) ⟨[], []⟩ = seqItems? dV >>= k ∧ ∀ v : Value, k (some #[v]) = pure [(x, v)]) : LamMk X T params body scope pos := by
  intro pins σ H s Q E I hT h
  refine PySem.W.kdv_lam (by rw [hd]; rfl) hk ?_
  rw [hd]
  refine PySem.W.kdv_all1 (wpAny_Constant_int (PySem.W.kdv_all0 ?_))
  have I0 := I.tok (s.toks + 1)
  rw [makeFunction_eq]
  simp only [List.zip_nil_right, List.filterMap_nil, List.isEmpty_nil, if_true, pure_bind, List.isEmpty_cons, Bool.false_eq_true, if_false]
  refine wpAny_bind (wpAny_newTextTuple ?_)
  have I1 : Inv X pins σ H { s with heap := s.heap.push (PySem.W.kdv_tup [.int i s.toks]), toks := s.toks + 1 } := I0.kept fun b o e => Heap.get?_push_of_some _ e
  have nofr : ∀ f, s.heap.objs.size ≤ f → f ∉ frs X.stack := fun f hf z => by
    rcases List.mem_cons.mp (I.stkSub _ z) with e | e
    · have h1 := I.lt
      rw [← e] at h1
      exact Nat.lt_irrefl _ (Nat.lt_of_lt_of_le h1 hf)
    · exact I.nofs hf e
  refine lam_tail I1 TB hcode hm hu hT (L.has I.ok) fun f c' pm ctv doc H1 s' I2 g1 t1 hf hfn hfr hc kp => ?_
  obtain ⟨k1, k2⟩ := kp s.heap.objs.size _ (Heap.get?_push_size _ rfl) (I.hok.fresh (Nat.le_refl _))
  refine h f c' (.ref s.heap.objs.size) pm ctv doc [(x, .int i s.toks)] H1 s' I2 g1 t1 hf hfn hfr hc (fun y hy => by rw [List.mem_singleton.mp hy]; exact hx) fun s2 k3 => ?_
  obtain ⟨k, e1, e2⟩ := hbind (X.env.qual ++ "<lambda>") (cloFrom X.env.cells scope.names []) (.ref s.heap.objs.size) doc pm (.ref c') ctv
  exact BindsTo.of_defaults rfl (k3 _ _ k1 k2 (nofr _ (Nat.le_refl _))) rfl e1 (e2 _)
end
end LamX
namespace LamX
open PySem PySem.Spec PyProof.Rows L2
section
variable {X : Cx} {pins : List (Addr × Obj)} {σ : L2.St} {H HZ : Hp} {s s1 : Shared}
theorem lam_startG {A : Around} {outer : List Env} {E : XK} {scope : Scope} {f c' : Addr} {h₁ : Heap} {tk : Nat} {binds : List (Str × Value)} (I : Inv X pins σ H s) (L : LamG X.N X.env.scope scope) (e0 : Env0 X.prog X.w X.K X.mg X.base A outer s1 HZ) (hd : A.handled = none)
    (un : Un (frs X.stack) [] H HZ s.heap s1.heap) (hns : h₁.Ns s1.heap.objs.size fun y => binds.reverse.lookup y) (kp : ∀ b o, s1.heap.get? b = some o → h₁.get? b = some o) :
    Inv (lamCx X A outer s1 HZ E scope f c') [] σ HZ { s1 with heap := h₁, toks := tk } := by
  have hfree := L.has I.ok
  have cm : ∀ {y c}, (cloFrom X.env.cells scope.names []).lookup y = some c → X.env.cells.lookup y = some c := fun {y c} e => by
    rcases cloFrom_mem (PySem.mem_of_lookup e) with hm | ⟨h1, h2⟩
    · cases hm
    · obtain ⟨c1, hc⟩ := hfree _ h1 rfl
      have hc : X.env.cells.lookup y = some c1 := hc
      have e2 : c = c1 := by
        rw [h2, hc] <;> rfl
      rw [e2]
      exact hc
  have look : ∀ {y}, scope.names.lookup y = some .free → ∃ c, (cloFrom X.env.cells scope.names []).lookup y = some c := fun {y} hl => by
    have hy : (y, NameKind.free) ∈ scope.names := PySem.mem_of_lookup hl
    exact mem_lookup (cloFrom_has (cells := X.env.cells) (acc := []) hy)
  have cellK : ∀ {c : Addr} {v : Option Value}, H c = none → s.heap.IsCell c v → h₁.IsCell c v := fun {c v} n ⟨o, ho, hd⟩ => by
    obtain ⟨sl, q⟩ := un.any ho n (by simp)
    exact ⟨_, kp _ _ q, hd⟩
  have noA : ∀ b : Addr, b ∉ (lamCx X A outer s1 HZ E scope f c').ex := fun b z => absurd (show b ∈ ([] : List Addr) from z) (by simp)
  refine ⟨⟨e0.mod, L.kind, rfl, rfl, Nat.le_refl _, fun y z c e1 e2 => I.ok.inj y z c (cm e1) (cm e2), fun y hy => ?_, fun y c z _ => ?_, fun _ => hd, Around.frames_deeper e0.frames, .inr ⟨rfl, rfl⟩, fun b z => absurd z (noA b), e0.bs, e0.bsz, fun b _ _ => noA b,
      fun b z => absurd z (noA b), e0.funs, e0.frf⟩,
    rfl, e0.bare, Un.kept kp, ⟨_, hns, fun i y v e1 e2 e3 => ?_⟩, fun y c e => ?_, e0.hok.fresh (Nat.le_refl _), fun y c e => ?_, fun q hq => absurd (show q ∈ ([] : List (Addr × Obj)) ++ [] from hq) (by simp), e0.hok.kept kp, I.len⟩
  · have hy : scope.names.lookup y = some .cell ∨ scope.names.lookup y = some .free := hy
    rcases hy with hy | hy
    · exact absurd rfl (L.own _ (PySem.mem_of_lookup hy)).1
    · exact look hy
  · have z : false = true := z
    cases z
  · have e3 : Vis scope y := e3
    rcases e3 with k | k | k
    · exact absurd (List.mem_of_getElem? e1) ((L.own _ (PySem.mem_of_lookup k)).2 rfl)
    · exact absurd rfl (L.own _ (PySem.mem_of_lookup k)).1
    · obtain ⟨m, hn, hl⟩ := I.loc
      have hvis : Vis X.env.scope y := (L.free _ (PySem.mem_of_lookup k) rfl).elim (fun k => .inr (.inl k)) (fun k => .inr (.inr k))
      obtain ⟨w', r, q⟩ := hl i y v e1 e2 hvis
      obtain ⟨c2, h2⟩ := look k
      refine ⟨w', r, .inr ⟨.inr k, c2, h2, ?_⟩⟩
      have c1 := cm h2
      rcases q with ⟨k', _⟩ | ⟨_, c3, e', z⟩
      · have k' : X.env.scope.names.lookup y = some .local := k'
        rcases L.free _ (PySem.mem_of_lookup k) rfl with k2 | k2 <;> rw [show X.env.scope.names.lookup y = _ from k2] at k' <;> cases k'
      · rw [c1] at e'
        cases e'
        exact cellK (I.freeC y _ c1) z
  · obtain ⟨w', z⟩ := I.cell y c (cm e)
    exact ⟨w', cellK (I.freeC y c (cm e)) z⟩
  · obtain ⟨v, o, ho, hd⟩ := I.cell y c (cm e)
    exact un.free c o ho (I.freeC y c (cm e)) (by simp)
/-- x(), in the def that got the lambda: Z is that def's context, entered at s -/
theorem pe_actG {CXg : CXT} {Eg : XK} {Ng : List Str} {qg : Str} {sg : Scope} {g f c' : Addr} {cdg dV doc pm ctv : Value} {params : Arguments} {body : Expr} {scope : Scope} {binds : List (Str × Value)} {k i : Nat} {a : Str} {pn : List (Addr × Obj)} {xe : Value → Shared → Prop} {W : WX} {E : XK} {tb : TE} {p1 p2 : Pos}
    (I : Inv X pins σ H s) (L : LamG X.N X.env.scope scope) (hf : s.heap.get? f = some (PySem.W.kdv_obj "<lambda>" (X.env.qual ++ "<lambda>") params (.expr body) scope (cloFrom X.env.cells scope.names []) dV doc pm c' ctv)) (hfn : H f = none) (hfr : f ∉ frs X.stack)
    (hl : ∀ y ∈ binds, scope.names.lookup y.1 = some .local)
    (hbind : ∀ s2 : Shared, (∀ b o, s.heap.get? b = some o → H b = none → b ∉ frs X.stack → s2.heap.get? b = some o) → BindsTo s2 (PySem.W.kdv_fn "<lambda>" (X.env.qual ++ "<lambda>") params (.expr body) scope (cloFrom X.env.cells scope.names []) dV doc pm (.ref c') ctv) ⟨[], []⟩ binds)
    (tk : Takes ((cxOf CXg X.prog X.w X.K X.mg X.base Ng qg sg g cdg X.A X.stack s H Eg).tr pn xe) W) (hW : ∀ cls d σ' H', E cls d H' → W cls d σ' H') (hr : Room (k + 1) (X.A.deeper (envOfC qg sg s.heap.objs.size g cdg)))
    (hbody : ∀ (A : Around) (outer : List Env) (s : Shared) (H : Hp), Room k (A.deeper (lamEnv X scope s.heap.objs.size f c')) → PE (lamCx X A outer s H E scope f c') body tb)
    (hN : Ng[i]? = some a) (hv : Vis sg a) (hd : (a == ("__debug__" : Str)) = false := by decide) (hcd : (a == ("__classdict__" : Str)) = false := by decide) :
    PE ((cxOf CXg X.prog X.w X.K X.mg X.base Ng qg sg g cdg X.A X.stack s H Eg).tr pn xe) (.Call (.Name a p1) [] [] p2)
      (fun σZ HZ Q => σZ[i]? = some (some (.ref f)) ∧ HZ c' = some (CodeO c' (X.env.qual ++ "<lambda>")) ∧ tb σ HZ Q) := by
  refine ⟨fun pinsZ sZ σZ HZ Q IZ h => ?_⟩
  obtain ⟨hs, hc, ht⟩ := h
  refine wpAny_Call_Name_kw (thn ((pe_var (pos := p1) (i := i) hN hv hd hcd).run pinsZ sZ σZ HZ (fun v H1 => v = .ref f ∧ H1 = HZ) IZ ⟨.ref f, hs, rfl, rfl⟩) fun u s1 ⟨v, H1, I1, r1, q1⟩ => ?_)
  obtain ⟨ev, eH⟩ := q1
  subst ev
  rw [eH] at I1
  obtain rfl : u = Value.ref f := r1
  have keep1 : ∀ b o, s.heap.get? b = some o → H b = none → b ∉ frs X.stack → s1.heap.get? b = some o := fun b o e n nf => I1.base.keep b o e n nf (fun z => nomatch (show b ∈ ([] : List Addr) from z))
  have of1 : s1.heap.get? f = some (PySem.W.kdv_obj "<lambda>" (X.env.qual ++ "<lambda>") params (.expr body) scope (cloFrom X.env.cells scope.names []) dV doc pm c' ctv) := keep1 f _ hf hfn hfr
  refine PySem.W.callWith_F0 ⟨_, _, _, _, of1⟩ ?_
  have un : Un (frs X.stack) [] H HZ s.heap s1.heap := I1.base
  obtain ⟨⟨oc, vs, t, hoc, hdc, hvc⟩, _, _⟩ := I1.hok c' _ hc
  have rc : codeAny (model X.prog X.w) (X.A.deeper (envOfC qg sg s.heap.objs.size g cdg)) (.call (.ref f) ⟨[], []⟩) (CR (L2.CX X.prog X.w) (envOfC qg sg s.heap.objs.size g cdg :: X.stack) X.prog X.w HZ s1 Q E) s1 := by
    refine PySem.W.kla_callFunE hr.depth of1 rfl L.co L.gen rfl ⟨c', oc, vs, t, rfl, hoc, hdc, hvc⟩ ?_
    refine hbind s1 keep1 _ _ _ _ (wpAny_newFunctionEnv (fun y hy => (L.own y hy).1) hl (fun h₁ hns hsb => ⟨I1.nolimit.fresh _ hsb, ?_⟩) L.kind)
    show codeAny _ _ (.expr body (lamEnv X scope s1.heap.objs.size f c')) _ _
    have kp : ∀ b o, s1.heap.get? b = some o → h₁.get? b = some o := fun b o e => hsb.extBut b o (Nat.ne_of_lt (Heap.lt_size e)) (Heap.get?_push_of_some _ e)
    have J : Inv (lamCx X (X.A.deeper (envOfC qg sg s.heap.objs.size g cdg)) (envOfC qg sg s.heap.objs.size g cdg :: X.stack) s1 HZ E scope f c') [] σ HZ { s1 with heap := h₁, toks := s1.toks + binds.length } :=
      lam_startG I L I1.env0 hr.hd un hns kp
    refine PySem.W.kla_codeExpr (wpAny_mono ((hbody _ _ s1 HZ (hr.deeper _)).run [] _ _ HZ Q J ht) (fun v s' hq => ?_) fun e s' hq => hq)
    obtain ⟨w', H', J', rv, q⟩ := hq
    exact ⟨w', H', J'.os, J'.bare, J'.base, J'.hok, rv, q⟩
  have hx : Passes (L2.CX X.prog X.w) ((cxOf CXg X.prog X.w X.K X.mg X.base Ng qg sg g cdg X.A X.stack s H Eg).tr pn xe) E := passes_call tk hW
  refine wpAny_call (codeAny_mono rc fun r s' hq => ?_)
  cases r with
  | error e => exact hx pinsZ σZ HZ s1 e s' I1 hq
  | ok fl =>
    cases fl with
    | ret u => exact I1.after hq
    | next => exact False.elim hq
    | brk => exact False.elim hq
    | cont => exact False.elim hq
end
def tLamG (T : List (Addr × Str)) (TT : (XK → Hp → VK → Prop) → Hp → VK → Prop) (t : XK → TE) : TE := fun σ H Q => Tabs T H ∧ ∀ H1, Grow H H1 → Tabs T H1 → TT (fun E H' Q' => t E σ H' Q') H1 Q
section
variable {X : Cx}
/-- x(lambda: body) -/
theorem pe_lamcallG {T : List (Addr × Str)} {TT : (XK → Hp → VK → Prop) → Hp → VK → Prop} {x a : Str} {g : Addr} {k : Nat} {pg : Arguments} {bg : List Stmt} {sg : Scope} {dV kV doc pm cdv ct oc : Value} {an od : Option Addr} {osl : Array (Option Value)} {Ng : List Str}
    {params : Arguments} {body : Expr} {scope : Scope} {t : XK → TE} {p lpos pos : Pos} (hg : Gl X x) (hm : X.mg x = some (.ref g)) (hk : PySem.W.keepIn X.K (.ref g) = true)
    (lk : X.K.lookup g = some ⟨oc, od, .func (PySem.W.fnOf x x pg bg sg dV kV doc pm an cdv ct), osl⟩) (hcg : PySem.W.codeIn X.K cdv x = true) (hb : L2.Binds X.K (PySem.W.fnOf x x pg bg sg dV kV doc pm an cdv ct) [a] []) (Sg : FnScope Ng [a] sg) (hNg : Ng[0]? = some a) (hva : Vis sg a)
    (hG : GivesTo X Ng x sg g cdv bg a (X.env.qual ++ "<lambda>") TT)
    (M : LamMk X T params body scope lpos) (hr : Room (k + 2) X.A) (L : LamG X.N X.env.scope scope)
    (hbody : ∀ (A : Around) (outer : List Env) (s : Shared) (H : Hp) (E : XK) (f c' : Addr), Room k (A.deeper (lamEnv X scope s.heap.objs.size f c')) → PE (lamCx X A outer s H E scope f c') body (t E))
    (hdb : (x == ("__debug__" : Str)) = false := by decide) (hd : (a == ("__debug__" : Str)) = false := by decide) (hcd : (a == ("__classdict__" : Str)) = false := by decide) :
    PE X (.Call (.Name x p) [.Lambda params body scope lpos] [] pos) (tLamG T TT t) := by
  refine ⟨fun pins s σ H Q I h => ?_⟩
  obtain ⟨hT, h⟩ := h
  refine wpAny_Call_Name_kw (ld_glob I hg hm ?_ hdb)
  refine PySem.W.callWith_K (h₀ := X.base) I.ok.mod.kin hk ?_ (by rfl) (by rfl)
  show wpAny _ _ (spliced ((false, eval (.Lambda params body scope lpos) X.env) :: backTo pos (starEach [] X.env))) _ _ s
  refine Calls.spliced_cons (M pins σ H s _ _ I hT fun f c' dV' pm' ctv doc' binds H1 s' I1 eN T1 hf hfn hfr hco hl hbind => ?_)
  refine Calls.spliced_nil ⟨I1.kIn, ?_⟩
  have rc : codeAny (model X.prog X.w) X.A (.call (.ref g) ⟨[.ref f], []⟩) (CR C8.CX0 X.stack X.prog X.w H1 s' Q C8.E0) s' := by
    refine run_ofS (N := Ng) (ps := [a]) (us := [.ref f]) (vs := [.ref f]) lk hcg Sg hr I1.env0 (hb s' [.ref f] I1.kIn rfl) (.cons rfl .nil) rfl fun hr' => ?_
    obtain ⟨t', ht', hq'⟩ := hG f c' s' H1 Q (fun E H' Q' => t E σ H' Q') (fun W pn xe E p1 p2 tk hW => pe_actG (i := 0) I1 L hf hfn hfr hl hbind tk hW hr' (fun A outer s H hr2 => hbody A outer s H E f c' hr2) hNg hva hd hcd) hco (h H1 eN T1)
    exact ⟨t', ht'.nox, hq'⟩
  refine wpAny_call (codeAny_mono rc fun r s2 hq => ?_)
  cases r with
  | error e => exact (show False from hq).elim
  | ok fl =>
    cases fl with
    | ret u => exact I1.after hq
    | next => exact False.elim hq
    | brk => exact False.elim hq
    | cont => exact False.elim hq
end
end LamX

set_option autoImplicit false
set_option maxHeartbeats 2000000
/-! Sim: the def that calls its argument and gives what was raised. -/
namespace LamX
open PySem PySem.Spec PyProof.Rows L2
theorem takes_len {X : Cx} {W : WX} (t : Takes X W) : Takes X (fun c d σ H => σ.length = X.N.length → W c d σ H) := fun u s' ⟨a, B, sI, pins, σ, H, cls, d, e, I, nb, up, sky, na, os, ag, w⟩ =>
  t u s' ⟨a, B, sI, pins, σ, H, cls, d, e, I, nb, up, sky, na, os, ag, w I.len⟩
/-- caught = None; try: work() / except PurseError as error: caught = error; return caught -/
def TCaught (K : PySem.W.Frag) (CP : Addr) : (XK → Hp → VK → Prop) → Hp → VK → Prop := fun tl H Q =>
  tl (fun cls d H' => PySem.W.exmOne K cls (.ref CP) = some true ∧ ∀ a, H' a = none → Q (.ref a) (upd H' a (ExcH a cls d))) H (fun _ H' => Q .non H')
theorem caught_gives {X : Cx} {x q : Str} {sg : Scope} {g CP : Addr} {cdg : Value} {j : Nat} {p1 p2 p3 p4 p5 p6 p7 p8 p9 p10 p11 p12 p13 p14 : Pos} (l0 : sg.names.lookup ("work" : Str) = some .local) (l1 : sg.names.lookup ("caught" : Str) = some .local) (l2 : sg.names.lookup ("error" : Str) = some .local) (hge : sg.names.lookup ("PurseError" : Str) = some .globalImplicit) (hme : X.mg "PurseError" = some (.ref CP)) :
    GivesTo X ["work", "caught", "error"] x sg g cdg [.Assign [.Name "caught" p1] (.Constant .none j p2) p3, .Try [.Expr (.Call (.Name "work" p4) [] [] p5) p6] [.ExceptHandler (some (.Name "PurseError" p7)) (some "error") [.Assign [.Name "caught" p8] (.Name "error" p9) p10] p11] [] [] p12, .Return (some (.Name "caught" p13)) p14] "work" q (TCaught X.K CP) := by
  intro f c' s H Q tl act hc h
  have hgl : Gl (cxOf C8.CX0 X.prog X.w X.K X.mg X.base ["work", "caught", "error"] x sg g cdg X.A X.stack s H C8.E0).nox "PurseError" := hge
  have nd : (["work", "caught", "error"] : List Str).Nodup := by decide +kernel
  refine ⟨_, pss_cons (ps_set (X := (cxOf C8.CX0 X.prog X.w X.K X.mg X.base ["work", "caught", "error"] x sg g cdg X.A X.stack s H C8.E0).nox) (i := 1) nd rfl (.inl l1) pe_non rfl (.inr l1)) (pss_cons (ps_try_keep (c := .ref CP) (i := 2)
      (ts := fun _ => tAsg (tVar 2) (gName 1))
      (tb := fun W D σ H => ∃ Ech : XK, (∀ cls d σ' H', Ech cls d H' → σ'.length = 3 → W cls d σ' H') ∧ σ[0]? = some (some (.ref f)) ∧ H c' = some (CodeO c' q) ∧ tl Ech H (fun _ H' => D.nx σ H'))
      rfl rfl nd rfl l2 ⟨hgl, by decide, .inl hme⟩ (fun W pn xe tk _ => ?_) (fun p pn => pss_one (ps_set (i := 1) nd rfl (.inl l1) (pe_var (i := 2) rfl (.inl l2)) rfl (.inr l1)))) (pss_one (ps_ret (pe_var (i := 1) rfl (.inl l1))))), ?_⟩
  · refine ⟨fun pins s' σ H' D I h' => ?_⟩
    obtain ⟨Ech, hW, h1, h2, h3⟩ := h'
    have hp := act _ pn xe Ech p4 p5 (takes_len tk) hW
    have hq := pss_one (ps_expr (pos := p6) hp)
    exact hq.run pins s' σ H' D I ⟨h1, h2, h3⟩
  · have eq : (fun (_ : V) (H' : Hp) => Q .non H') = fun (_ : V) (H' : Hp) => tRet (tVar 1) { nx := fun _ H' => Q .non H', rt := Q } ((L2.start ["work", "caught", "error"] [V.ref f]).set 1 (some .non)) H' := by
      funext _ H'
      exact propext ⟨fun z => ⟨.non, rfl, z⟩, fun ⟨v, z, r⟩ => by cases z; exact r⟩
    refine ⟨fun cls d H' => PySem.W.exmOne X.K cls (.ref CP) = some true ∧ ∀ a, H' a = none → Q (.ref a) (upd H' a (ExcH a cls d)), fun cls d σ' H' e hlen => ?_, rfl, hc, ?_⟩
    · obtain ⟨e1, e2⟩ := e
      refine ⟨e1, fun a ha => ?_⟩
      match σ', hlen with
      | [x0, x1, x2], _ => exact ⟨.ref a, rfl, ⟨.ref a, rfl, e2 a ha⟩⟩
    · show tl _ H (fun (_ : V) (H' : Hp) => tRet (tVar 1) { nx := fun _ H' => Q .non H', rt := Q } ((L2.start ["work", "caught", "error"] [V.ref f]).set 1 (some .non)) H')
      rw [← eq]
      exact h
end LamX

set_option autoImplicit false
set_option maxHeartbeats 2000000
/-! Sim: what kind of exception a def let out. -/
namespace Sim
open PySem L2 PyProof.Rows LamX

/-! ### isinstance of a kept exception -/
def rIsK (K : PySem.W.Frag) (a C : Addr) : List V → Hp → VK → Prop := fun xs H Q => H a = some (ExcH a (.ref C) none) ∧ ∃ (D : Addr) (b : Bool), xs = [.ref a, .ref D] ∧ PySem.W.kitOne K (.ref C) (.ref D) = some b ∧ Q (.bl b) H
theorem call_isK {X : Cx} {a C : Addr} (hC : ExcC X.K C) : CallR X (.builtin "isinstance") (rIsK X.K a C) := by
  intro pins s σ H xs us Q I r h
  obtain ⟨ha, D, b, rfl, e, q⟩ := h
  cases r with
  | cons rx rr =>
    cases rr with
    | cons rt rr =>
      cases rr
      cases rx
      cases rt
      obtain ⟨⟨oe, vs, hget, hz, hv⟩, _, _⟩ := I.hok a _ ha
      have J : PySem.W.InstAt s.heap a oe C none := by
        obtain ⟨oc, od, oda, osl⟩ := oe
        obtain ⟨h1, h2⟩ := hz
        dsimp only at h1 h2 hv
        subst h1 h2 hv
        exact ⟨hget, rfl, rfl, trivial⟩
      exact PySem.W.kia_one (PySem.W.handS_kitx_exc hC.hg hC.hk hC.hs hC.hd hC.ha hC.hn hC.ht hC.hm) I.kIn J e (fun z => nomatch z) fun tk => ⟨.bl b, H, I.kept (t' := tk) fun _ _ z => z, rfl, q⟩
/-- isinstance(x, D), x the exception at a -/
def isxG (i : Nat) (a : Addr) (b : Bool) : EG := fun δ μ => match δ[i]? with
  | some (some (.adr d)) => if d = a then .ok (.bl b) μ else .stuck
  | _ => .stuck
section
variable {K : PySem.W.Frag} {Γ : Clss} {E : XK} {ρ ρ1 : List Addr} {H H1 H' : Hp} {μ μ' : Store}
theorem sim_isx {i : Nat} {a C D : Addr} {b : Bool} (hX : (a, ExcH a (.ref C) none) ∈ Γ.X) (hk : PySem.W.kitOne K (.ref C) (.ref D) = some b) : SimE K Γ E (tCB (rIsK K a C) (tCons (tVar i) (tCons (tC (.ref D)) tNil))) (isxG i a b) := fun ρ μ δ σ H S e Q hp => by
  unfold isxG at hp
  cases h : δ[i]? with
  | none => simp only [h] at hp; exact hp.elim
  | some o => cases o with
    | none => simp only [h] at hp; exact hp.elim
    | some d => cases d with
      | adr d =>
        simp only [h] at hp
        by_cases hd : d = a
        · subst hd
          simp only [if_true] at hp
          obtain ⟨v, h1, h2⟩ := e.get i _ h
          cases h2
          exact ⟨_, h1, (S.kn.2 _ hX).1, D, b, rfl, hk, hp _ ρ H Ext.refl S (.bl b)⟩
        · simp only [if_neg hd] at hp; exact hp.elim
      | _ => simp only [h] at hp; exact hp.elim

/-! ### what grows is a later heap -/
theorem nt_mut {u : HO} (h : IsMut u) : NotTbl u := by
  cases u <;> first | trivial | exact h.elim
theorem nt_of {u : HO} (h : NotTbl u) : ∀ ps, u ≠ .tbl ps := fun ps z => by rw [z] at h; exact h
theorem ext_grow (g : Grow H H1) : Ext ρ H ρ H1 :=
  ⟨⟨[], by simp, fun _ h => by cases h⟩, fun b o h _ n => g.1 b o h (nt_of n), g.2, fun b xs h => g.1 b _ h (fun ps z => by cases z), fun b o xs h => g.1 b _ h (fun ps z => by cases z), fun b o xs h => g.1 b _ h (fun ps z => by cases z)⟩
theorem SR.grow (S : SR K Γ ρ μ H) (g : Grow H H1) (T : Tabs Γ.T H1) : SR K Γ ρ μ H1 := by
  refine ⟨S.len, S.nd, fun n a o hn ho => ?_, T, fun p hp => ?_⟩
  · have x := S.obs n a o hn ho
    obtain ⟨u, e, m⟩ := x.there
    exact x.ext (ext_grow g) ((g.1 a u e (nt_of (nt_mut m))).trans e.symm)
  · obtain ⟨h1, h2⟩ := S.kn.2 p hp
    refine ⟨g.1 _ _ h1 fun ps z => ?_, h2⟩
    rw [z] at h2; exact h2

/-! ### the def that tells the kind -/
def spKind (K : PySem.W.Frag) (Γ : Clss) (W : Str → Str) : Sp := fun vs H Q _ => vs.length = 1 ∧ ∃ (a : Addr) (c : Str) (C : Addr) (ρ : List Addr) (μ : Store), vs = [.ref a] ∧ H a = some (ExcH a (.ref C) none) ∧ Γ c = some C ∧ SR K Γ ρ μ H ∧ Post K Γ E0 (RV K) ρ H (Rs.ok (.str (W c)) μ) Q
def Clss.plus (Γ : Clss) (a C : Addr) : Clss := ⟨Γ.f, Γ.T, (a, ExcH a (.ref C) none) :: Γ.X⟩
theorem SR.plus {a C : Addr} (S : SR K Γ ρ μ H) (h : H a = some (ExcH a (.ref C) none)) : SR K (Γ.plus a C) [] [] H :=
  ⟨rfl, List.nodup_nil, fun n a o hn _ => by simp at hn, S.kn.1, fun p hp => by
    rcases List.mem_cons.mp hp with rfl | hp
    · exact ⟨h, trivial⟩
    · exact S.kn.2 p hp⟩
/-- nothing of the store is known to have changed where nothing was taken for the store's own -/
theorem Ext.ground {ρ' : List Addr} (x : Ext [] H ρ' H1) : Ext ρ H ρ H1 :=
  ⟨⟨[], by simp, fun _ h => by cases h⟩, fun b o h _ n => x.keep b o h (by simp) n, x.there, x.tups, x.frzs, x.frzt⟩
theorem SR.ground {ρ' : List Addr} {a C : Addr} (S : SR K Γ ρ μ H) (x : Ext [] H ρ' H1) (S' : SR K (Γ.plus a C) ρ' μ' H1) : SR K Γ ρ μ H1 := by
  refine ⟨S.len, S.nd, fun n a o hn ho => ?_, S'.kn.1, fun p hp => S'.kn.2 p (List.mem_cons_of_mem _ hp)⟩
  have y := S.obs n a o hn ho
  obtain ⟨u, e, m⟩ := y.there
  exact y.ext x.ground ((x.keep a u e (by simp) (nt_mut m)).trans e.symm)
end
section
variable {P : Program} {w : World} {K : PySem.W.Frag} {Γ : Clss} {mg : Str → Option Value} {base : Heap}
theorem def_kind {x qual : Str} {st : Stmt} {f : Addr} {fd : FuncData} {N ps : List Str} {k : Nat} {G : Addr → Str → SG} {W : Str → Str} (Fu : Fun K x qual st f fd) (S : FnScope N ps (defScope st)) (h1 : ps.length = 1)
    (hp : ∀ (a : Addr) (c : Str), ∃ μ', fnG N.length (G a c) [.adr a] [] = .ok (.str (W c)) μ')
    (hbody : ∀ (a : Addr) (c : Str) (C : Addr), Γ c = some C → ∀ (cdv : Value) (A : Around) (outer : List Env) (s : Shared) (H : Hp) (E : XK), Room k (A.deeper (envOfC qual (defScope st) s.heap.objs.size f cdv)) →
      ∃ t, PSs (cxOf CX0 P w K mg base N qual (defScope st) f cdv A outer s H E).nox (defBody st) t ∧ SimS K (Γ.plus a C) E0 t (G a c)) : FnOk P w K mg base CX0 (k + 1) f fd ps (spKind K Γ W) := by
  refine Fu.ok S (fun vs H Q E h => h.1.trans h1.symm) (fun cdv A outer s H vs Q E hr h => ?_)
  obtain ⟨_, a, c, C, ρ, μ, rfl, ha, hC, SS, hq⟩ := h
  obtain ⟨t, e1, e2⟩ := hbody a c C hC cdv A outer s H E hr
  refine ⟨t, e1, body_ok (SS.plus ha) (.cons (.adr a) .nil) e2 ?_⟩
  obtain ⟨μ', e⟩ := hp a c
  rw [e]
  intro v ρ' H' x S' r
  exact hq v ρ H' x.ground (SS.ground x S') (by cases r; exact .str _)
end

/-! ### kind(caught(lambda: e)) -/
def kindG (W : Str → Str) (a : EG) : EG := fun δ μ => match a δ μ with
  | .ex x μ' => if x.fs.isEmpty then .ok (.str (W x.cls)) μ' else .stuck
  | _ => .stuck
section
variable {K : PySem.W.Frag} {Γ : Clss} {E : XK}
theorem sim_kind {CP : Addr} {W : Str → Str} {t : XK → TE} {Fb : EG} (hE : ∀ c C, Γ c = some C → PySem.W.exmOne K (.ref C) (.ref CP) = some true) (ht : ∀ E' : XK, SimE K Γ E' (t E') Fb) :
    SimE K Γ E (tCall (spKind K Γ W) [] E0 (tCons (tLamG Γ.T (TCaught K CP) t) tNil)) (kindG W Fb) := fun ρ μ δ σ H S e Q hp => by
  refine ⟨S.kn.1, fun H1 g1 T1 => ?_⟩
  have x1 : Ext ρ H ρ H1 := ext_grow g1
  have S1 := S.grow g1 T1
  refine ht _ ρ μ δ σ H1 S1 (e.ext x1) _ ?_
  unfold kindG at hp
  cases h : Fb δ μ with
  | ok d μ' => rw [h] at hp; exact hp.elim
  | stuck => rw [h] at hp; exact hp.elim
  | ex x μ' =>
    rw [h] at hp
    by_cases hf : x.fs.isEmpty = true
    · simp only [hf, if_true] at hp
      intro ρ' H' C od x2 S2 hC hd
      have hfs : x.fs = [] := List.isEmpty_iff.mp hf
      rw [hfs] at hd
      cases od with
      | some d => exact absurd rfl hd.1
      | none =>
        refine ⟨hE _ _ hC, fun a ha => ?_⟩
        have x3 : Ext ρ' H' ρ' (upd H' a (ExcH a (.ref C) none)) := Ext.new ha
        exact ⟨rfl, a, x.cls, C, ρ', μ', rfl, upd_same, hC, S2.new ha, hp.weak ((x1.trans x2).trans x3)⟩
    · simp only [Bool.not_eq_true] at hf
      simp only [hf, Bool.false_eq_true, if_false] at hp
      exact hp.elim
end

/-! ### a call of what a name holds -/
def tCallX (i : Nat) (S : Addr → Option Sp) (E : XK) (t : TA) : TE := fun σ H Q => ∃ f sp, σ[i]? = some (some (.ref f)) ∧ S f = some sp ∧ t σ H fun vs H1 => sp vs H1 Q E
def findF : List (Addr × Fn) → Addr → Option Fn
  | [], _ => none
  | p :: r, d => if d = p.1 then some p.2 else findF r d
theorem findF_mem : ∀ {cs : List (Addr × Fn)} {d : Addr} {F : Fn}, findF cs d = some F → (d, F) ∈ cs
  | p :: r, d, F, h => by
    unfold findF at h
    split at h
    · rename_i e
      cases h
      rw [e]; exact List.mem_cons_self
    · exact List.mem_cons_of_mem _ (findF_mem h)
/-- a def that may be held by a name -/
def HeldX (P : Program) (w : World) (K : PySem.W.Frag) (Γ : Clss) (mg : Str → Option Value) (base : Heap) (k n : Nat) (p : Addr × Fn) : Prop := ∃ (j : Nat) (ps : List Str), j ≤ k ∧ ps.length = n ∧ DefX P w K Γ mg base j p.1 ps p.2 ∧ PySem.W.keepIn K (.ref p.1) = true
theorem pe_askX {X : Cx} {Γ : Clss} {E : XK} {k i n : Nat} {x : Str} {p pos : Pos} {e : Expr} {es : List Expr} {t : TA} {cs : List (Addr × Fn)} (A : ∀ q ∈ cs, HeldX X.prog X.w X.K Γ X.mg X.base k n q) (hr : Room k X.A) (hN : X.N[i]? = some x) (hv : Vis X.env.scope x) (hx : Passes (L2.CX X.prog X.w) X E) (ha : PA X (e :: es) t)
    (hdb : (x == ("__debug__" : Str)) = false := by decide) (hcd : (x == ("__classdict__" : Str)) = false := by decide)
    (he : starEach (e :: es) X.env = (false, eval e X.env) :: starEach es X.env := by rfl) (hpl : (backTo pos (starEach es X.env)).any (·.1) = false := by rfl) : PE X (.Call (.Name x p) (e :: es) [] pos) (tCallX i (fun d => (findF cs d).map (spX X.K Γ n)) E t) := by
  refine ⟨fun pins s σ H Q I h => ?_⟩
  obtain ⟨f, sp, hs, hS, ht⟩ := h
  obtain ⟨F, hF, rfl⟩ := Option.map_eq_some_iff.mp hS
  obtain ⟨j, ps, hj, hn, ⟨fd, O, B⟩, hk⟩ := A _ (findF_mem hF)
  subst hn
  refine (pe_callL (i := i) (f := f) (dvs := []) (E := E) O (hr.mono hj) hN hv hk B .nil hx ha hdb hcd he hpl).run pins s σ H Q I ⟨hs, ?_⟩
  have e0 : (fun (vs : List V) (H1 : Hp) => spX X.K Γ ps.length F (vs ++ []) H1 Q E) = fun vs H1 => spX X.K Γ ps.length F vs H1 Q E := by
    funext vs H1
    rw [List.append_nil]
  rw [e0]
  exact ht
/-- x(..), x in slot i -/
def askG (i : Nat) (cs : List (Addr × Fn)) (a : AG) : EG := fun δ => match δ[i]? with
  | some (some (.adr d)) => match findF cs d with
    | some F => callG F a δ
    | none => stk
  | _ => stk
section
variable {K : PySem.W.Frag} {Γ : Clss} {E : XK} {La : AG}
theorem sim_ask {i n : Nat} {cs : List (Addr × Fn)} {t : TA} (ha : SimA K Γ E t La) (hk : ∀ δ μ ds μ', La δ μ = .ok ds μ' → ds.length = n) : SimE K Γ E (tCallX i (fun d => (findF cs d).map (spX K Γ n)) E t) (askG i cs La) := fun ρ μ δ σ H S e Q hp => by
  unfold askG at hp
  cases h : δ[i]? with
  | none => simp only [h] at hp; exact hp.elim
  | some o => cases o with
    | none => simp only [h] at hp; exact hp.elim
    | some d => cases d with
      | adr d =>
        simp only [h] at hp
        cases hF : findF cs d with
        | none => simp only [hF] at hp; exact hp.elim
        | some F =>
          simp only [hF] at hp
          obtain ⟨v, h1, h2⟩ := e.get i _ h
          cases h2
          refine ⟨d, spX K Γ n F, h1, (congrArg (Option.map (spX K Γ n)) hF).trans rfl, ?_⟩
          have z := sim_callX (k := n) (F := F) ha hk ρ μ δ σ H S e Q hp
          unfold tCall at z
          have e0 : (fun (vs : List V) (H1 : Hp) => spX K Γ n F (vs ++ []) H1 Q E) = fun vs H1 => spX K Γ n F vs H1 Q E := by
            funext vs H1
            rw [List.append_nil]
          rw [e0] at z
          exact z
      | _ => simp only [h] at hp; exact hp.elim
end
end Sim

set_option autoImplicit false
set_option maxHeartbeats 2000000
/-! Sim: the law's own def where it makes lambdas, and the law's end with its table. -/
namespace Sim
open PySem L2 PyProof.Rows LamX
section
variable {P : Program} {w : World} {K : PySem.W.Frag} {Γ : Clss} {mg : Str → Option Value} {base : Heap}
/-- a list that nobody changes may be taken as locked -/
theorem fn_frz {k : Nat} {f : Addr} {fd : FuncData} {ps : List Str} {sp : Sp} (F : FnOk P w K mg base CX0 k f fd ps sp) :
    FnOk P w K mg base CX0 k f fd ps (fun vs H Q E => sp vs H Q E ∨ (vs.length = ps.length ∧ ∃ a xs, H a = some (.lst xs) ∧ ∀ o, sp vs (upd H a (.frz o (.lst xs))) Q E)) := by
  refine ⟨fun vs H Q E h => h.elim (F.len vs H Q E) (·.1), fun A outer s H args us vs Q E hr e0 hb r h => ?_⟩
  rcases h with h | ⟨_, a, xs, ha, h⟩
  · exact F.run A outer s H args us vs Q E hr e0 hb r h
  · obtain ⟨hl, its, n, hv, hg⟩ := e0.hok a _ ha
    have ne : ∀ b, H b = none → b ≠ a := fun b e z => by rw [z, ha] at e; cases e
    have hok : HOk P w (upd H a (.frz { cls := .type "list", data := .seq its.toArray n } (.lst xs))) s.heap := fun b u e => by
      by_cases hb : b = a
      · subst hb
        rw [upd_same] at e; cases e
        exact ⟨hg, hl, its, n, hv, hg⟩
      · rw [upd_ne hb] at e
        refine (e0.hok b u e).stay (fun _ _ _ q => q) (fun d q => ?_) fun d ys q => ?_
        · rw [upd_ne fun z => by rw [z, ha] at q; cases q]; exact q
        · rw [upd_ne fun z => by rw [z, ha] at q; cases q]; exact q
    have e1 : Env0 P w K mg base A outer s (upd H a (.frz { cls := .type "list", data := .seq its.toArray n } (.lst xs))) :=
      ⟨e0.frames, e0.mod, fun b o e => ⟨(e0.bs b o e).1, by rw [upd_ne (ne b (e0.bs b o e).2)]; exact (e0.bs b o e).2⟩, e0.bsz, e0.funs, fun b hb => by rw [upd_ne (ne b (e0.frf b hb))]; exact e0.frf b hb, hok, e0.bare⟩
    refine codeAny_mono (F.run A outer s _ args us vs Q E hr e1 hb r (h _)) fun rr s' hq => ?_
    cases rr with
    | error e => exact (show False from hq).elim
    | ok fl => cases fl with
      | next => exact hq
      | brk => exact hq
      | cont => exact hq
      | ret u =>
        obtain ⟨v, H', os, bare, un, hok', rv, q⟩ := hq
        have old : ∀ {b : Addr} {u : HO}, H b = some u → u ≠ .lst xs → upd H a (.frz { cls := .type "list", data := .seq its.toArray n } (.lst xs)) b = some u := fun {b u} e z => by
          rw [upd_ne fun z2 => z (Option.some.inj (by rw [← e, z2, ha]))]; exact e
        have new : ∀ {b : Addr}, H b = none → upd H a (.frz { cls := .type "list", data := .seq its.toArray n } (.lst xs)) b = none := fun {b} e => by rw [upd_ne (ne b e)]; exact e
        exact ⟨v, H', os, bare, ⟨fun b o e n => un.keep b o e (new n), fun b o e n => un.slot b o e (new n), fun b o e n => un.free b o e (new n), un.there, fun b ys e => un.tups b ys (old e fun z => by cases z), fun b o y e => un.frzs b o y (old e fun z => by cases z), fun b ps e => un.tbls b ps (old e fun z => by cases z)⟩, hok', rv, q⟩
/-- where the law's own def stands, its code object at c and its table at Pt -/
structure FunT (K : PySem.W.Frag) (x : Str) (st : Stmt) (f : Addr) (fd : FuncData) (c Pt : Addr) : Prop where
  ex : ∃ (oc : Value) (od : Option Addr) (kV doc pm : Value) (an : Option Addr) (ct : Value) (osl : Array (Option Value)), fd = PySem.W.fnOf x x (defArgs st) (defBody st) (defScope st) .none kV doc pm an (.ref c) ct ∧
    K.lookup f = some ⟨oc, od, .func (PySem.W.fnOf x x (defArgs st) (defBody st) (defScope st) .none kV doc pm an (.ref c) ct), osl⟩
  code : PySem.W.codeIn K (.ref c) x = true
  hd : PySem.W.codeHdIn K c Pt = true
  out : K.lookup Pt = none
def AtT (K : PySem.W.Frag) (x : Str) (st : Stmt) (h : Heap) : Prop := ∃ (f : Addr) (fd : FuncData) (c Pt : Addr), PySem.W.nsIn K mainGlobals x = some (some (.ref f)) ∧ FunT K x st f fd c Pt ∧ h.get? Pt = some (PySem.W.tabObj #[])
theorem atT_mk {cc : Value} {dd : Option Addr} {vs : Array Value} {sl : Array (Option Value)} {x : Str} {st : Stmt} {h : Heap} {f c Pt : Addr} {oc : Value} {od an : Option Addr} {osl : Array (Option Value)} {kV doc pm ct : Value} (a : PySem.W.nsIn K mainGlobals x = some (some (.ref f)))
    (l : K.lookup f = some ⟨oc, od, .func (PySem.W.fnOf x x (defArgs st) (defBody st) (defScope st) .none kV doc pm an (.ref c) ct), osl⟩) (cd : PySem.W.codeIn K (.ref c) x = true) (lc : K.lookup c = some ⟨cc, dd, .fields vs, sl⟩) (v : vs[11]? = some (.ref Pt)) (d : PySem.W.codeHdIn K c Pt = true) (n : K.lookup Pt = none) (e : h.get? Pt = some (PySem.W.tabObj #[])) : AtT K x st h :=
  ⟨f, _, c, Pt, a, ⟨⟨oc, od, kV, doc, pm, an, ct, osl, rfl, l⟩, cd, d, n⟩, e⟩
theorem def_fnT {x : Str} {st : Stmt} {f c Pt : Addr} {fd : FuncData} {N ps : List Str} {k : Nat} {F : Fn} {G : SG} (Fu : FunT K x st f fd c Pt) (S : FnScope N ps (defScope st))
    (hF : ∀ (ds : List D) (μ : Store) (ρ : List Addr) (H : Hp) (Q : VK), SR K Γ ρ μ H → Post K Γ E0 (RV K) ρ H (F ds μ) Q → Post K Γ E0 (RV K) ρ H (fnG N.length G ds μ) Q)
    (hbody : ∀ (A : Around) (outer : List Env) (s : Shared) (H : Hp) (E : XK), Room k (A.deeper (envOfC x (defScope st) s.heap.objs.size f (.ref c))) →
      ∃ t, PSs (cxOf CX0 P w K mg base N x (defScope st) f (.ref c) A outer s H E).nox (defBody st) t ∧ SimS K Γ E0 t G) : FnOk P w K mg base CX0 (k + 1) f fd ps (spN K Γ ps.length F) := by
  obtain ⟨oc, od, kV, doc, pm, an, ct, osl, rfl, lk⟩ := Fu.ex
  refine fn_of lk Fu.code S (fun vs H Q E h => h.1) fun A outer s H vs Q E hr h => ?_
  obtain ⟨_, ρ, μ, ds, S, r, hp⟩ := h
  obtain ⟨t, h1, h2⟩ := hbody A outer s H E hr
  exact ⟨t, h1.nox, body_ok S r h2 (hF ds μ ρ H Q S hp)⟩
end

theorem ps_nox {X : Cx} {st : Stmt} {t : TS} (h : PS X.nox st t) : PS X st t := ⟨fun pins s σ H D I hw =>
  wpAny_mono (h.run pins s σ H D (I.wish _) hw) (fun _ _ q => q.unwish) fun _ _ z => False.elim z⟩
/-- a def that raises, and changes nothing of what stood -/
def trimX (F : Fn) : Fn := fun ds μ => match F ds μ with
  | .ex x μ' => if x.fs = [] ∧ μ'.take μ.length = μ then .ex x μ else .ex x μ'
  | r => r
theorem trimX_ok {K : PySem.W.Frag} {Γ : Clss} {E : XK} {ρ : List Addr} {H : Hp} {μ : Store} {F : Fn} {ds : List D} {Q : VK} (S : SR K Γ ρ μ H) (h : Post K Γ E (RV K) ρ H (trimX F ds μ) Q) : Post K Γ E (RV K) ρ H (F ds μ) Q := by
  unfold trimX at h
  cases e : F ds μ with
  | ok d μ' => rw [e] at h; exact h
  | stuck => rw [e] at h; exact h
  | ex x μ' =>
    rw [e] at h
    simp only at h
    split at h
    · rename_i hc
      intro ρ' H' C od x1 S' hC hd
      obtain ⟨m, hm, _⟩ := x1.pre
      subst hm
      have hlen : ρ.length = μ.length := S.len
      have S2 : SR K Γ ρ (μ'.take ρ.length) H' := by
        refine S'.down ?_ fun o ho => ?_
        · have := S'.len
          rw [List.length_append] at this; omega
        · rw [hlen, hc.2] at ho
          obtain ⟨n, hn, eo⟩ := List.mem_iff_getElem.mp ho
          obtain ⟨a, _, ha⟩ := S.ad (n := n) (o := o) (by rw [List.getElem?_eq_getElem hn, eo])
          exact ha.bd
      rw [hlen, hc.2] at S2
      rw [hc.1] at hd
      have hn : od = none := by
        cases od with
        | none => rfl
        | some d => exact absurd rfl hd.1
      subst hn
      exact h ρ H' C none x1.less S2 hC hc.1
    · exact h

/-! ### classes of exceptions -/
abbrev vBase : List Value := [.type "ValueError", .type "Exception", .type "BaseException", .type "object"]
/-- an own class below PurseError -/
structure ExcV (K : PySem.W.Frag) (C CP : Addr) : Prop where
  t : ExcT K C vBase "ValueError.__new__"
  c : ExcC K C
  x : PySem.W.exmOne K (.ref C) (.ref CP) = some true
theorem excV_mk {K : PySem.W.Frag} {C CP : Addr} (qq : PySem.W.excIn K C vBase "ValueError.__new__" = true) (kp : PySem.W.keepIn K (.ref C) = true) (sub : PySem.W.subIn K (.ref C) (.type "BaseException") = some true) (ty : PySem.W.typeIn K (.ref C) = some (.type "type"))
    (hg : PySem.W.findIn K (.ref C) "__getattribute__" = some (some (.builtin "BaseException.__getattribute__"))) (hk : PySem.W.findIn K (.ref C) "__getattr__" = some none) (hd : PySem.W.hasDictIn K C = true) (ha : PySem.W.findIn K (.ref C) "__class__" = some (some (.builtin "object.__class__")))
    (hn : PySem.W.specialIn K (.builtin "object.__class__") "__get__" = some (some (.builtin "getset_descriptor.__get__"))) (ht : PySem.W.takesIn K (.builtin "object.__class__") = some true) (hm : PySem.W.mroIn K C (.type "object") = some true)
    (psub : PySem.W.subIn K (.ref CP) (.type "BaseException") = some true) (pd : PySem.W.hasDictIn K CP = true) (pt : PySem.W.typeIn K (.ref CP) = some (.type "type")) (p4 : PySem.W.subIn K (.ref C) (.ref CP) = some true) : ExcV K C CP :=
  ⟨⟨qq, kp, sub, ty⟩, ⟨hg, hk, sub, hd, ha, hn, ht, hm⟩, PySem.W.exm_ref psub pd pt p4⟩
/-- a def's promise, any -/
def DefS (P : Program) (w : World) (K : PySem.W.Frag) (mg : Str → Option Value) (base : Heap) (k : Nat) (f : Addr) (ps : List Str) (sp : Sp) : Prop := ∃ fd : FuncData, FnOk P w K mg base CX0 k f fd ps sp ∧ Binds K fd ps []
/-- a global name of a def or a class, as a value -/
theorem pe_adr {X : Cx} {x : Str} {a : Addr} {pos : Pos} (hg : Gl X x) (hm : X.mg x = some (.ref a)) (hd : (x == ("__debug__" : Str)) = false := by decide) : PE X (.Name x pos) (tC (.ref a)) := pe_glob hg hm rfl hd

/-! ### the law's end -/
theorem walk_ofXT {l : PySem.W.OpenLaw} {n k : Nat} {q : Program} {loose : List Str} {XP : (Str → Option Value) → Heap → Prop} {YP : World → Heap → Prop} {d : DefRec} {K : Params → PySem.W.Frag} {CX : World → CXT} {x : Str}
    (hn : l.most = some n) (hn2 : n ≤ sizeLine) (hdf : d.params.defaults = []) (hr : Room k callerA) (hY : ∀ (w : World) (h : Heap), YP w h → (K w.params).In h)
    (F : ∀ (w : World) (mg : Str → Option Value) (fa : Addr) (h : Heap), YP w h → (K w.params).In h → h.Ns mainGlobals mg → XP mg h → mg d.name = some (.ref fa) → LawAtS l w (K w.params) (CX w) k n x mg fa h)
    (hCX : ∀ (w : World) (H : Hp) (s : Shared) (e : Value) (s' : Shared), CX w [] H s (fun _ _ _ => False) e s' → False) :
    PySem.W.WalkO q loose XP YP l.row.toRowW d [] (fun f vs => PySem.call f vs) := by
  refine Att.attach_callB hn hdf fun w s₀ s₁ mg mb fa o pm cd doc a vs ns G Y ho hd hcd hmg hobj hints hlen hbits hg => ?_
  have KX := hY w _ Y
  obtain ⟨fd, cs, sp, hT, nT, C, hb, hsp, hF⟩ := F w mg fa _ Y KX G.T.g G.X hmg
  exact law_callTs KX G.T.g G.T.b G.T.builtins G.T.nolimit hg hT nT C G.T.bmain hobj hints (Nat.le_trans hlen hn2) hr hF hb (fun H hH hS => hsp H a ns hlen hbits hH hS) fun H e s' => hCX w H s₁ e s'
/-- the law's own promise, of F over the script's ints, its table at Pt known -/
theorem law_spT {K : PySem.W.Frag} {Γ : Clss} {F : Fn} {H : Hp} {a Pt : Addr} {q : Str} {ns : List Int} (hl : ns.length ≤ 63) (hT : Γ.T = [(Pt, q)]) (hX : Γ.X = []) (hP : H Pt = some (.tbl #[])) (s : SqL K H a (ns.map V.int)) (hF : ∃ μ', F [.fz (ns.map D.int)] [] = .ok (.bl true) μ') :
    spN K Γ 1 F [.ref a] H (fun v _ => v = .bl true) (fun _ _ _ => False) ∨ (([.ref a] : List V).length = 1 ∧ ∃ (a' : Addr) (xs : List V), H a' = some (.lst xs) ∧ ∀ o, spN K Γ 1 F [.ref a] (upd H a' (.frz o (.lst xs))) (fun v _ => v = .bl true) fun _ _ _ => False) := by
  have hl' : (ns.map V.int).length ≤ sizeLine := by rw [List.length_map, sizeLine_eq]; omega
  have go : ∀ H : Hp, H Pt = some (.tbl #[]) → FzL K H a (ns.map V.int) → spN K Γ 1 F [.ref a] H (fun v _ => v = .bl true) (fun _ _ _ => False) := fun H hP z => by
    refine ⟨rfl, [], [], [.fz (ns.map D.int)], ⟨rfl, List.nodup_nil, fun n a o hn _ => by simp at hn, fun p hp => ?_, fun p hp => by rw [hX] at hp; cases hp⟩, .cons (.fz z hl' (RVs.ofInts ns)) .nil, ?_⟩
    · rw [hT] at hp
      rw [List.mem_singleton.mp hp]
      exact .nil hP
    · obtain ⟨μ', e⟩ := hF
      rw [e]
      intro v ρ' H' _ _ r
      cases r
      rfl
  rcases s with (s | ⟨o, s⟩) | s
  · refine .inr ⟨rfl, a, _, s, fun o => go _ ?_ (.inl ⟨o, upd_same⟩)⟩
    rw [upd_ne fun z => by rw [z, s] at hP; cases hP]; exact hP
  · exact .inl (go H hP (.inl ⟨o, s⟩))
  · exact .inl (go H hP (.inr s))
/-- the law's promise as the end wants it -/
theorem lawAt {l : PySem.W.OpenLaw} {w : World} {K : PySem.W.Frag} {k : Nat} {x : Str} {mg : Str → Option Value} {fa : Addr} {h : Heap} {fd : FuncData} {c Pt : Addr} {st : Stmt} {F : Fn} {Γ : Clss} {q : Str} (KX : K.In h) (Fu : FunT K "law" st fa fd c Pt) (hT : h.get? Pt = some (PySem.W.tabObj #[]))
    (hb : ∀ (s : Shared) (u : Value), BindsTo s fd ⟨[u], []⟩ [(x, u)]) (gT : Γ.T = [(Pt, q)]) (gX : Γ.X = []) (hlaw : ∀ ns : List Int, ns.length ≤ 63 → ∃ μ, F [.fz (ns.map D.int)] [] = .ok (.bl true) μ)
    (hF : ∀ base : Heap, K.In base → base.Ns mainGlobals mg → TabB base mg c Pt → FnOk l.prog w K mg base CX0 k fa fd [x] (spN K Γ 1 F)) : LawAtS l w K CX0 k 63 x mg fa h := by
  refine ⟨fd, [(c, Pt)], _, fun p hp => ?_, fun p hp => ?_, fun p hp => ?_, hb, fun H a ns hl _ hH s => ?_, fun base X N TB => fn_frz (hF base X N (TB (c, Pt) (.head _)))⟩
  · rw [List.mem_singleton.mp hp]; exact hT
  · rw [List.mem_singleton.mp hp]; exact Fu.out
  · rw [List.mem_singleton.mp hp]; exact PySem.W.codeHd_of_K KX Fu.hd
  · exact law_spT hl gT gX (hH (c, Pt) (.head _)) s (hlaw ns hl)
end Sim

set_option autoImplicit false
set_option maxHeartbeats 2000000
/-! Sim: repr(x) != repr(y) of like data; the law run from the caller alone. -/
namespace Sim
open PySem L2 PyProof.Rows LamX
/-! ### repr -/
def okShown (p : PyData) : Bool := p.showable && !p.hasDict && decide (p.depth ≤ 40) && decide (p.shown.length ≤ sizeLine)
def rRepr (K : PySem.W.Frag) : List V → Hp → VK → Prop := fun xs H Q => ∃ (a : Addr) (p : PyData), xs = [.ref a] ∧ Dp K H (.ref a) p ∧ okShown p = true ∧ Q (.str p.shown) H
theorem call_repr {X : Cx} (hg : X.A.guards = some []) (hu : X.A.units + 64 < cLine) : CallR X (.builtin "repr") (rRepr X.K) := by
  intro pins s σ H xs us Q I r h
  obtain ⟨a, p, rfl, hd, hok, q⟩ := h
  cases r with
  | cons rx rr =>
    cases rr
    cases rx
    unfold okShown at hok
    simp only [Bool.and_eq_true, Bool.not_eq_true', decide_eq_true_eq] at hok
    obtain ⟨⟨⟨h1, h2⟩, h3⟩, h4⟩ := hok
    obtain ⟨as, rd⟩ := Dp.reads I p (.ref a) (.ref a) hd rfl
    exact repr_of_reads' rd h1 (fun z => by rw [h2] at z; cases z) hg (by omega) (fun _ _ z => z) (fun h' u tk k => ⟨.str p.shown, H, I.kept k, ⟨u, rfl⟩, q⟩) h4
def okRepr (d : D) : Bool := match d with
  | .tup _ => match d.py with
    | some p => okShown p
    | none => false
  | _ => false
/-- repr(a) != repr(b) where both are the same -/
def reprNeG (a b : EG) : EG := fun δ => bnd (a δ) fun d => if okRepr d = true then bnd (b δ) (fun e => if d = e then ret (.bl false) else stk) else stk
section
variable {K : PySem.W.Frag} {Γ : Clss} {E : XK} {ta tb : TE} {Fa Fb : EG}
theorem okRepr_at {ρ : List Addr} {H : Hp} {v : V} {d : D} (r : RV K ρ H v d) (h : okRepr d = true) : ∃ (a : Addr) (p : PyData), v = .ref a ∧ d.py = some p ∧ Dp K H (.ref a) p ∧ okShown p = true := by
  cases r with
  | @tup a xs ds h1 h2 h3 =>
    unfold okRepr at h
    cases e : (D.tup ds).py with
    | none => simp only [e] at h; cases h
    | some p =>
      simp only [e] at h
      exact ⟨a, p, rfl, rfl, (RV.tup h1 h2 h3).dp e, h⟩
  | _ => cases h
theorem sim_reprNe (ha : SimE K Γ E ta Fa) (hb : SimE K Γ E tb Fb) : SimE K Γ E (tOp rNe (tCB (rRepr K) (tCons ta tNil)) (tCB (rRepr K) (tCons tb tNil))) (reprNeG Fa Fb) := fun ρ μ δ σ H S e Q hp => by
  refine ha.go S e hp fun v d ρ1 μ1 H1 x1 S1 r1 hp1 => ?_
  by_cases hok : okRepr d = true
  · simp only [if_pos hok] at hp1
    obtain ⟨a, p, rfl, hpy, hd, hs⟩ := okRepr_at r1 hok
    refine ⟨a, p, rfl, hd, hs, ?_⟩
    refine hb.go S1 (e.ext x1) hp1 fun w c ρ2 μ2 H2 x2 S2 r2 hp2 => ?_
    by_cases hc : d = c
    · subst hc
      simp only [if_pos] at hp2
      obtain ⟨b, q, rfl, hqy, hd2, hs2⟩ := okRepr_at r2 hok
      rw [hpy] at hqy
      cases hqy
      refine ⟨b, p, rfl, hd2, hs2, rfl, ?_⟩
      rw [decide_eq_true rfl]
      exact hp2 _ ρ2 H2 Ext.refl S2 (.bl false)
    · simp only [if_neg hc] at hp2
      exact hp2.elim
  · simp only [if_neg hok] at hp1
    exact hp1.elim
end
end Sim
namespace Sim
open PySem L2 PyProof.Rows LamX
/-! ### the law, run by its caller -/
/-- a def's promise where the caller is the claim's own -/
def RunC (P : Program) (w : World) (K : PySem.W.Frag) (mg : Str → Option Value) (base : Heap) (f : Addr) (fd : FuncData) (ps : List Str) (sp : Sp) : Prop :=
  ∀ (s : Shared) (H : Hp) (args : Args) (us : List Value) (vs : List V) (Q : VK) (E : XK), Env0 P w K mg base callerA [] s H → BindsTo s fd args (ps.zip us) → Vals vs us → sp vs H Q E → codeAny (model P w) callerA (.call (.ref f) args) (CR CX0 [] P w H s Q E) s
section
variable {P : Program} {w : World} {K : PySem.W.Frag} {Γ : Clss} {mg : Str → Option Value} {base : Heap}
theorem def_runC {x : Str} {st : Stmt} {f c Pt : Addr} {fd : FuncData} {N ps : List Str} {k : Nat} {F : Fn} {G : SG} (Fu : FunT K x st f fd c Pt) (S : FnScope N ps (defScope st)) (hr : Room (k + 1) callerA)
    (hF : ∀ (ds : List D) (μ : Store) (ρ : List Addr) (H : Hp) (Q : VK), SR K Γ ρ μ H → Post K Γ E0 (RV K) ρ H (F ds μ) Q → Post K Γ E0 (RV K) ρ H (fnG N.length G ds μ) Q)
    (hbody : ∀ (s : Shared) (H : Hp) (E : XK), Room k (callerA.deeper (envOfC x (defScope st) s.heap.objs.size f (.ref c))) →
      ∃ t, PSs (cxOf CX0 P w K mg base N x (defScope st) f (.ref c) callerA [] s H E).nox (defBody st) t ∧ SimS K Γ E0 t G) : RunC P w K mg base f fd ps (spN K Γ ps.length F) := by
  obtain ⟨oc, od, kV, doc, pm, an, ct, osl, rfl, lk⟩ := Fu.ex
  intro s H args us vs Q E e0 hb r h
  refine run_ofS (CX := CX0) lk Fu.code S hr e0 hb r h.1 fun hr' => ?_
  obtain ⟨_, ρ, μ, ds, S', rr, hp⟩ := h
  obtain ⟨t, h1, h2⟩ := hbody s H E hr'
  exact ⟨t, h1.nox, body_ok S' rr h2 (hF ds μ ρ H Q S' hp)⟩
/-- the heap that the law starts with: its table, and the script if it is not of the written part -/
def startH (K : PySem.W.Frag) (Pt a : Addr) (o : Obj) (ns : List Int) : Hp := fun b =>
  if b = Pt then some (.tbl #[]) else if b = a then (match K.lookup a with
    | none => some (.frz o (.lst (ns.map V.int)))
    | some _ => none) else none
theorem startH_some {Pt a b : Addr} {o : Obj} {ns : List Int} {u : HO} (h : startH K Pt a o ns b = some u) : (b = Pt ∧ u = .tbl #[]) ∨ (b ≠ Pt ∧ b = a ∧ K.lookup a = none ∧ u = .frz o (.lst (ns.map V.int))) := by
  unfold startH at h
  by_cases h1 : b = Pt
  · rw [if_pos h1] at h; cases h; exact .inl ⟨h1, rfl⟩
  · rw [if_neg h1] at h
    by_cases h2 : b = a
    · rw [if_pos h2] at h
      cases e : K.lookup a with
      | none => simp only [e] at h; cases h; exact .inr ⟨h1, h2, rfl, rfl⟩
      | some z => simp only [e] at h; cases h
    · rw [if_neg h2] at h; cases h
theorem startH_none {Pt a b : Addr} {o : Obj} {ns : List Int} (h1 : b ≠ Pt) (h2 : b ≠ a) : startH K Pt a o ns b = none := by
  unfold startH
  rw [if_neg h1, if_neg h2]
theorem law_callC {mb : Str → Option Value} {fa a c Pt : Addr} {fd : FuncData} {x : Str} {sp : Sp} {s₁ : Shared} {vs : List Value} {ns : List Int}
    (KX : K.In s₁.heap) (hns : s₁.heap.Ns mainGlobals mg) (hb : s₁.heap.Ns builtinsNs mb) (hbb : ∀ x : Str, x ≠ "__name__" → mb x = bootBuiltins x) (hlim : s₁.heap.NoLimit) (hg : s₁.gens = #[])
    (hT : s₁.heap.get? Pt = some (PySem.W.tabObj #[])) (nT : K.lookup Pt = none) (C : PySem.W.CodeHd s₁.heap c Pt)
    (hbm : ∃ (bm : Addr) (ob : Obj), mg "__builtins__" = some (.ref bm) ∧ bm ≠ builtinsNs ∧ s₁.heap.get? bm = some ob ∧ ob.cls = .type "module" ∧ ob.dict = some builtinsNs ∧ ob.data = .plain)
    (ha : s₁.heap.get? a = some { cls := .type "list", data := .seq vs.toArray }) (hi : IntsAre vs ns) (hl : ns.length ≤ sizeLine)
    (F : ∀ base : Heap, K.In base → base.Ns mainGlobals mg → TabB base mg c Pt → RunC P w K mg base fa fd [x] sp) (hbind : ∀ (s : Shared) (u : Value), BindsTo s fd ⟨[u], []⟩ [(x, u)])
    (hsp : ∀ H : Hp, H Pt = some (.tbl #[]) → FzL K H a (ns.map V.int) → sp [.ref a] H (fun v _ => v = .bl true) fun _ _ _ => False) :
    codeAny (model P w) callerA (.call (.ref fa) ⟨[.ref a], []⟩) (fun r s' => r = .ok (.ret (.bool true)) ∧ OldK s₁.heap s'.heap ∧ s'.os = s₁.os ∧ AllBare s'.gens) s₁ := by
  have rv := vals_ints hi
  have hPa : Pt ≠ a := fun z => by rw [z, ha] at hT; cases hT
  obtain ⟨H, eH⟩ : ∃ H : Hp, H = startH K Pt a { cls := .type "list", data := .seq vs.toArray } ns := ⟨_, rfl⟩
  have hP : H Pt = some (.tbl #[]) := by rw [eH]; exact if_pos rfl
  have tracked : ∀ {b : Addr} {u : HO}, H b = some u → (b = Pt ∧ u = .tbl #[]) ∨ (b ≠ Pt ∧ b = a ∧ K.lookup a = none ∧ u = .frz { cls := .type "list", data := .seq vs.toArray } (.lst (ns.map V.int))) := fun h => startH_some (by rw [← eH]; exact h)
  have away : ∀ {b : Addr} {o : Obj}, s₁.heap.get? b = some o → o.data ≠ .fields #[] → (∀ us n, o.data ≠ .seq us n) → H b = none := fun {b o} e h1 h2 => by
    rw [eH]
    refine startH_none (fun z => ?_) fun z => ?_
    · rw [z, hT] at e; cases e; exact h1 rfl
    · rw [z, ha] at e; cases e; exact h2 _ _ rfl
  have below : ∀ {b : Addr} {o : Obj}, s₁.heap.get? b = some o → H b = none → (hidT s₁.heap H).get? b = some o := fun e n => hidT_get e n
  have nsBelow : ∀ {b : Addr} {m : Str → Option Value}, s₁.heap.Ns b m → (hidT s₁.heap H).Ns b m := fun {b m} ⟨o, es, ep, e, d, r⟩ => ⟨o, es, ep, below e (away e (fun z => by rw [d] at z; cases z) fun _ _ z => by rw [d] at z; cases z), d, r⟩
  have KB : K.In (hidT s₁.heap H) := fun b o e => below (KX b o e) (by
    cases q : H b with
    | none => rfl
    | some u =>
      rcases tracked q with ⟨z, _⟩ | ⟨_, z, n, _⟩
      · rw [z, nT] at e; cases e
      · rw [z, n] at e; cases e)
  obtain ⟨ml, l1, l2⟩ := hlim
  have MB : L2.Mod K mg (hidT s₁.heap H) := ⟨KB, nsBelow hns, ⟨mb, nsBelow hb, hbb⟩, ⟨ml, nsBelow l1, l2⟩⟩
  have notG : mainGlobals ≠ Pt := fun z => by
    obtain ⟨o, es, ep, e, d, _⟩ := hns
    rw [z, hT] at e; cases e; cases d
  have TB : TabB (hidT s₁.heap H) mg c Pt := by
    refine ⟨?_, ?_, notG⟩
    · obtain ⟨o, us, file, tf, flags, tg, inF, text, tt, e1, r1, r2, r3, r4⟩ := C
      refine ⟨o, us, file, tf, flags, tg, inF, text, tt, below e1 (away e1 (fun z => ?_) fun _ _ z => ?_), r1, r2, r3, r4⟩
      · rw [r2] at z; cases z; simp at r3
      · rw [r2] at z; cases z
    · obtain ⟨bm, ob, b1, b2, b3, b4, b5, b6⟩ := hbm
      refine ⟨bm, ob, b1, b2, fun z => ?_, fun z => ?_, below b3 (away b3 (fun z => by rw [b6] at z; cases z) fun _ _ z => by rw [b6] at z; cases z), b4, b5, b6⟩
      · obtain ⟨o, es, ep, e, d, _⟩ := hns
        rw [z, e] at b3; cases b3; rw [d] at b6; cases b6
      · rw [z, hT] at b3; cases b3; cases b6
  have hok : HOk P w H s₁.heap := fun b u q => by
    rcases tracked q with ⟨z, zu⟩ | ⟨_, z, _, zu⟩
    · subst z; subst zu; exact hT
    · subst z; subst zu; exact ⟨ha, by rw [List.length_map]; exact hl, vs, _, rv, ha⟩
  have e0 : Env0 P w K mg (hidT s₁.heap H) callerA [] s₁ H := ⟨rfl, MB, fun b o e => of_hidT e, Nat.le_of_eq (hidT_size _ _), trivial, (fun b z => by cases z), hok, .of_eq hg⟩
  have hfz : FzL K H a (ns.map V.int) := by
    cases e : K.lookup a with
    | none =>
      refine .inl ⟨{ cls := .type "list", data := .seq vs.toArray }, ?_⟩
      rw [eH]
      show (if a = Pt then _ else if a = a then _ else _) = _
      rw [if_neg (Ne.symm hPa), if_pos rfl, e]
    | some o =>
      have z := KX a o e
      rw [ha] at z
      cases z
      exact .inr ⟨_, vs.toArray, _, e, rfl, rfl, rfl, by rw [List.size_toArray, hi.length]; exact hl, by simpa using rv⟩
  refine codeAny_mono (F _ KB (nsBelow hns) TB s₁ H ⟨[.ref a], []⟩ [.ref a] [.ref a] _ _ e0 (hbind s₁ (.ref a)) (.cons rfl .nil) (hsp H hP hfz)) fun r s' h => ?_
  cases r with
  | error e => exact (show False from h).elim
  | ok fl => cases fl with
    | next => exact (show False from h).elim
    | brk => exact (show False from h).elim
    | cont => exact (show False from h).elim
    | ret u =>
      obtain ⟨v, H', os, bare, un, hok', r', rfl⟩ := h
      obtain rfl : u = Value.bool true := r'
      have kept : ∀ b o, b ≠ Pt → s₁.heap.get? b = some o → s'.heap.get? b = some o := fun b o nb e => by
        cases q : H b with
        | none => exact un.keep b o e q (fun z => nomatch (show b ∈ ([] : List Addr) from z)) (by simp)
        | some u =>
          rcases tracked q with ⟨z, _⟩ | ⟨_, _, _, rfl⟩
          · exact absurd z nb
          · have z2 := (hok' b _ (un.frzs b _ _ q)).1
            have z1 := (hok b _ q).1
            rw [e] at z1
            rw [z2, z1]
      obtain ⟨more, hm⟩ := un.tbls Pt #[] hP
      have grown : s'.heap.get? Pt = some { cls := .none, data := .fields (#[] ++ more) } := hok' Pt _ hm
      refine ⟨rfl, ⟨fun b o e => ?_, fun b o e => ?_⟩, os, bare⟩
      · by_cases hb : b = Pt
        · subst hb
          rw [hT] at e
          cases e
          exact .inr (.inl ⟨(C.tab hT).isCodeTable, rfl, #[], more, rfl, grown⟩)
        · exact .inl (kept b o hb e)
      · by_cases hb : b = Pt
        · subst hb; exact ⟨_, grown⟩
        · exact ⟨o, kept b o hb e⟩
end
/-- what is known of the law's promise at the head's heap h -/
def LawAtC (l : PySem.W.OpenLaw) (w : World) (K : PySem.W.Frag) (x : Str) (mg : Str → Option Value) (fa : Addr) (h : Heap) : Prop :=
  ∃ (fd : FuncData) (c Pt : Addr) (sp : Sp), h.get? Pt = some (PySem.W.tabObj #[]) ∧ K.lookup Pt = none ∧ PySem.W.CodeHd h c Pt ∧ (∀ (s : Shared) (u : Value), BindsTo s fd ⟨[u], []⟩ [(x, u)]) ∧
    (∀ (H : Hp) (a : Addr) (ns : List Int), ns.length ≤ 63 → H Pt = some (.tbl #[]) → FzL K H a (ns.map V.int) → sp [.ref a] H (fun v _ => v = .bl true) fun _ _ _ => False) ∧
    ∀ base : Heap, K.In base → base.Ns mainGlobals mg → TabB base mg c Pt → RunC l.prog w K mg base fa fd [x] sp
theorem walk_ofXC {l : PySem.W.OpenLaw} {q : Program} {loose : List Str} {XP : (Str → Option Value) → Heap → Prop} {YP : World → Heap → Prop} {d : DefRec} {K : Params → PySem.W.Frag} {x : Str}
    (hn : l.most = some 63) (hdf : d.params.defaults = []) (hY : ∀ (w : World) (h : Heap), YP w h → (K w.params).In h)
    (F : ∀ (w : World) (mg : Str → Option Value) (fa : Addr) (h : Heap), YP w h → (K w.params).In h → h.Ns mainGlobals mg → XP mg h → mg d.name = some (.ref fa) → LawAtC l w (K w.params) x mg fa h) :
    PySem.W.WalkO q loose XP YP l.row.toRowW d [] (fun f vs => PySem.call f vs) := by
  refine Att.attach_callB hn hdf fun w s₀ s₁ mg mb fa o pm cd doc a vs ns G Y ho hd hcd hmg hobj hints hlen hbits hg => ?_
  have KX := hY w _ Y
  obtain ⟨fd, c, Pt, sp, hT, nT, C, hb, hsp, hF⟩ := F w mg fa _ Y KX G.T.g G.X hmg
  exact law_callC KX G.T.g G.T.b G.T.builtins G.T.nolimit hg hT nT C G.T.bmain hobj hints (by rw [sizeLine_eq]; omega) hF hb fun H h1 h2 => hsp H a ns hlen h1 h2
theorem lawAtC {l : PySem.W.OpenLaw} {w : World} {K : PySem.W.Frag} {x : Str} {mg : Str → Option Value} {fa : Addr} {h : Heap} {fd : FuncData} {c Pt : Addr} {st : Stmt} {F : Fn} {Γ : Clss} {q : Str} (KX : K.In h) (Fu : FunT K "law" st fa fd c Pt) (hT : h.get? Pt = some (PySem.W.tabObj #[]))
    (hb : ∀ (s : Shared) (u : Value), BindsTo s fd ⟨[u], []⟩ [(x, u)]) (gT : Γ.T = [(Pt, q)]) (gX : Γ.X = []) (hlaw : ∀ ns : List Int, ns.length ≤ 63 → ∃ μ, F [.fz (ns.map D.int)] [] = .ok (.bl true) μ)
    (hF : ∀ base : Heap, K.In base → base.Ns mainGlobals mg → TabB base mg c Pt → RunC l.prog w K mg base fa fd [x] (spN K Γ 1 F)) : LawAtC l w K x mg fa h := by
  refine ⟨fd, c, Pt, _, hT, Fu.out, PySem.W.codeHd_of_K KX Fu.hd, hb, fun H a ns hl hP s => ?_, hF⟩
  refine ⟨rfl, [], [], [.fz (ns.map D.int)], ⟨rfl, List.nodup_nil, fun n a o hn _ => by simp at hn, fun p hp => ?_, fun p hp => by rw [gX] at hp; cases hp⟩, .cons (.fz s (by rw [List.length_map, sizeLine_eq]; omega) (RVs.ofInts ns)) .nil, ?_⟩
  · rw [gT] at hp
    rw [List.mem_singleton.mp hp]
    exact .nil hP
  · obtain ⟨μ', e⟩ := hlaw ns hl
    rw [e]
    intro v ρ' H' _ _ r
    cases r
    rfl
end Sim

set_option autoImplicit false
/-! Sim: a tuple several times. -/
namespace Sim
open PySem L2 PyProof.Rows
/-- t * k -/
def repTD : D → D → Mn D
  | .tup ds, .int k => if 2 ≤ k ∧ k ≤ 1000 ∧ ds.length ≤ 1000 ∧ ds ≠ [] ∧ (List.replicate k.toNat ds).flatten.length ≤ sizeLine then ret (.tup (List.replicate k.toNat ds).flatten) else stk
  | _, _ => stk
section
variable {K : PySem.W.Frag} {Γ : Clss} {E : XK} {ρ : List Addr} {H : Hp}
theorem RVs.rep {vs : List V} {ds : List D} (r : RVs K ρ H vs ds) : ∀ n : Nat, RVs K ρ H (List.replicate n vs).flatten (List.replicate n ds).flatten
  | 0 => .nil
  | n + 1 => by
    rw [List.replicate_succ, List.replicate_succ, List.flatten_cons, List.flatten_cons]
    exact r.append (RVs.rep r n)
theorem s_repT : OpS K Γ E (rRepT K) repTD := by
  intro ρ μ H v w d e Q S r1 r2 hp
  cases r1 with
  | @tup a xs ds h1 l1 t1 => cases r2 with
    | int k =>
      unfold repTD at hp
      by_cases hc : 2 ≤ k ∧ k ≤ 1000 ∧ ds.length ≤ 1000 ∧ ds ≠ [] ∧ (List.replicate k.toNat ds).flatten.length ≤ sizeLine
      · simp only [if_pos hc] at hp
        obtain ⟨c1, c2, c3, c4, c5⟩ := hc
        refine ⟨a, k, xs, rfl, rfl, h1, fun z => ?_, c1, c2, by rw [t1.length]; exact c3, fun p hn => ?_⟩
        · subst z; cases t1; exact c4 rfl
        · have x : Ext ρ H ρ (upd H p (.tup (List.replicate k.toNat xs).flatten)) := Ext.new hn
          exact hp _ ρ _ x (S.new hn) (.tup (.inl (.inl upd_same)) (by rw [(t1.rep k.toNat).length]; exact c5) ((t1.rep k.toNat).ext x))
      · simp only [if_neg hc] at hp; exact hp.elim
    | _ => exact hp.elim
  | _ => exact hp.elim
end
end Sim

set_option autoImplicit false
/-! Sim: sum of a tuple of ints. -/
namespace Sim
open PySem L2 PyProof.Rows
theorem sum_tupG {prog : Program} {w : World} {A : Around} {E : Value → Shared → Prop} {s : Shared} {l : Addr} {its : List Value} {ns : List Int} {Q : Value → Shared → Prop} (hh : A.handled = none) (hl : IsTup s.heap l its.toArray) (hi : IntsAre its ns)
    (h : ∀ h' tk t', (∀ b o, s.heap.get? b = some o → h'.get? b = some o) → Q (.int ns.sum t') { s with heap := h', toks := tk }) : wpAny (model prog w) A (call (.builtin "sum") [.ref l]) Q E s := by
  obtain ⟨xs, e⟩ := hi.allInts.items
  have hn : numsOf (intItems xs).toList = ns := by rw [← e]; exact hi.numsOf
  rw [nums_intItems] at hn
  rw [e] at hl
  obtain ⟨o, e1, e2, n, e3⟩ := hl
  have ht : s.heap.IsTuple l (intItems xs) := ⟨o, e1, e2, n, e3⟩
  have hlt : l < s.heap.objs.size := Heap.lt_size e1
  refine call_sum_walkG (wpAny_pyIter_tuple ht ?_)
  refine ⟨s.heap.objs.size, _, _, _, _, _, numAt xs, rfl, Walks.tuple (A := A.in1) hh s.heap.objs.size l (Nat.ne_of_lt hlt) (intItems xs), ⟨⟨_, Heap.get?_push_size _ rfl, rfl, rfl⟩, ht.push _⟩, fun b hb => ?_, (fun _ _ => intItems_at), fun h' tk t' hk => ?_⟩
  · show b < (s.heap.push _).objs.size
    rw [Heap.size_push]
    simp only [List.mem_cons, List.not_mem_nil, or_false] at hb
    rcases hb with rfl | rfl
    · exact Nat.lt_succ_self _
    · exact Nat.lt_succ_of_lt hlt
  · have z := h h' tk t' fun b u eb => hk b u (fun m => by
      rw [List.mem_singleton] at m
      have q := Heap.lt_size eb
      rw [m] at q
      exact Nat.lt_irrefl _ q) (Heap.get?_push_of_some _ eb)
    have es : preSum (numAt xs) (intItems xs).size = ns.sum := by
      rw [preSum_eq, List.take_of_length_le (by simp [intItems]), hn]
    rw [es]
    exact z
def rSumT (K : PySem.W.Frag) : List V → Hp → VK → Prop := fun vs H Q => ∃ (a : Addr) (ns : List Int), vs = [V.ref a] ∧ SqT K H a (ns.map V.int) ∧ Q (.int ns.sum) H
theorem cr_sumT {X : Cx} (hc : X.calm = true) : CallR X (.builtin "sum") (rSumT X.K) := by
  intro pins s σ H vs us Q I r h
  obtain ⟨a, ns, rfl, hs, q⟩ := h
  obtain ⟨its, rv, ht, _⟩ := I.tuple hs
  rw [Vals.ref1 r]
  exact sum_tupG (I.ok.hd hc) ht rv.ints fun h' tk t' hk => ⟨.int _, H, I.kept hk, ⟨_, rfl⟩, q⟩
def sumTD (d : D) : Mn D := match d with
  | .tup ds => match unInts ds with
    | some bs => ret (.int bs.sum)
    | none => stk
  | _ => stk
section
variable {K : PySem.W.Frag} {Γ : Clss} {E : XK}
theorem c_sumT : CaS K Γ E (rSumT K) (c1 sumTD) := cas1 fun ρ μ H v d Q S r hp => by
  unfold sumTD at hp
  cases r with
  | @tup a xs ds h1 l1 t1 =>
    cases h : unInts ds with
    | none => simp only [h] at hp; exact hp.elim
    | some bs =>
      simp only [h] at hp
      have e := unInts_some h
      subst e
      exact ⟨a, bs, rfl, by rw [← t1.ints]; exact h1, hp _ ρ H Ext.refl S (.int _)⟩
  | _ => exact hp.elim
end
end Sim

set_option autoImplicit false
set_option maxHeartbeats 2000000
/-! Sim: lambdas that stand in a list, called later. -/
namespace LamX
open PySem PySem.Spec PyProof.Rows L2
/-- the object at f, just so -/
def FunO (f : Addr) (o : Obj) : HO := .ext fun h => h.get? f = some o
section
variable {X : Cx} {pins : List (Addr × Obj)} {σ : L2.St} {H : Hp} {s : Shared}
theorem funO_ok {P : Program} {w : World} {H : Hp} {h : Heap} {f : Addr} {o : Obj} (e : h.get? f = some o) : ObjOk P w H h f (FunO f o) := ⟨e, ⟨o, e⟩, fun h1 h2 z k => k o z⟩
theorem grow_new {p : Addr} {o : HO} (h : H p = none) : Grow H (upd H p o) := ⟨fun b u e _ => (upd_ne (ne_of_none e h)).trans e, fun b e => by
  by_cases z : b = p
  · rw [z]; exact h
  · rw [upd_ne z] at e; exact e⟩
/-- the lambda is made, and known from then on -/
theorem lam_tailK {T : List (Addr × Str)} {c P : Addr} {params : Arguments} {body : Expr} {scope : Scope} {pos : Pos} {dV : Value} {E : Value → Shared → Prop} {Q : Value → Shared → Prop} (I : Inv X pins σ H s) (TB : TabB X.base X.mg c P) (hcode : X.env.code = .ref c)
    (hm : (P, X.env.qual ++ "<lambda>") ∈ T) (hu : ∀ p ∈ T, p.1 = P → p.2 = X.env.qual ++ "<lambda>") (hT : Tabs T H) (hfree : ∀ y ∈ scope.names, y.2 = .free → ∃ c, X.env.cells.lookup y.1 = some c)
    (h : ∀ (f c' : Addr) (pm ctv doc : Value) (H1 : Hp) (s' : Shared), Inv X pins σ H1 s' → Grow H H1 → Tabs T H1 →
      s'.heap.get? f = some (PySem.W.kdv_obj "<lambda>" (X.env.qual ++ "<lambda>") params (.expr body) scope (cloFrom X.env.cells scope.names []) dV doc pm c' ctv) → H1 f = some (FunO f (PySem.W.kdv_obj "<lambda>" (X.env.qual ++ "<lambda>") params (.expr body) scope (cloFrom X.env.cells scope.names []) dV doc pm c' ctv)) → H1 c' = some (CodeO c' (X.env.qual ++ "<lambda>")) → Q (.ref f) s') :
    wpAny (model X.prog X.w) X.A (makeTail "<lambda>" (X.env.qual ++ "<lambda>") params (.expr body) scope X.env dV .none none pos pos.line) Q E s := by
  obtain ⟨ps, hP, ht, ha⟩ := hT _ hm
  have bP : s.heap.BuiltinsAt X.mg P := TB.bm.keeps I.bk
  have hP' : s.heap.get? P = some { cls := .none, data := .fields ps } := I.hok P _ hP
  cases hc : codeAmong pos ps.toList with
  | none =>
    refine PySem.W.kdv_makeTail (mg := X.mg) (c := c) (P := P) (ps := ps) (closure_ok hfree) I.ok.glob (I.mod.glob.keeps I.bk) hcode (TB.code.keeps I.bk) hP' ht hc TB.gP bP fun c' ctv doc h' tk hx hge hlt hrec htb => ?_
    obtain ⟨c2, oc, vs, t, e2, hoc, hd, hv⟩ := hrec
    cases e2
    have hsz : s.heap.objs.size ≤ h'.objs.size := Nat.le_trans hge (Nat.le_of_lt hlt)
    have nC : H c' = none := I.hok.fresh hge
    have I0 := inv_table (t' := tk) (more := #[rawInt pos.line, rawInt pos.col, .ref c']) (h' := h') I hP hx htb hge ⟨oc, vs, t, hoc, hd, hv⟩
    have nf : upd (upd H P (.tbl (ps ++ #[rawInt pos.line, rawInt pos.col, .ref c']))) c' (CodeO c' (X.env.qual ++ "<lambda>")) h'.objs.size = none := by
      have n1 : h'.objs.size ≠ c' := Nat.ne_of_gt hlt
      have n2 : h'.objs.size ≠ P := Nat.ne_of_gt (Nat.lt_of_lt_of_le (Heap.lt_size hP') hsz)
      rw [upd_ne n1, upd_ne n2]
      exact I.hok.fresh hsz
    have I1 := I0.laid (t' := tk) (a := h'.objs.size) (o := FunO h'.objs.size (PySem.W.kdv_obj "<lambda>" (X.env.qual ++ "<lambda>") params (.expr body) scope (cloFrom X.env.cells scope.names []) dV doc ((X.mg "__name__").getD .none) c' ctv)) (h' := h'.push (PySem.W.kdv_obj "<lambda>" (X.env.qual ++ "<lambda>") params (.expr body) scope (cloFrom X.env.cells scope.names []) dV doc ((X.mg "__name__").getD .none) c' ctv))
      (fun b o e => Heap.get?_push_of_some _ e) (Nat.le_refl _) (funO_ok (Heap.get?_push_size _ rfl))
    have hE : ExtN H (upd (upd H P (.tbl (ps ++ #[rawInt pos.line, rawInt pos.col, .ref c']))) c' (CodeO c' (X.env.qual ++ "<lambda>"))) := fun b o e n => by
      rw [upd_ne (ne_of_none e nC), upd_ne (fun z => n ps (Option.some.inj (e.symm.trans (by rw [z]; exact hP))))]
      exact e
    have hG : ∀ b, upd (upd H P (.tbl (ps ++ #[rawInt pos.line, rawInt pos.col, .ref c']))) c' (CodeO c' (X.env.qual ++ "<lambda>")) b = none → H b = none := fun b e => by
      by_cases h1 : b = c'
      · rw [h1, upd_same] at e; cases e
      · rw [upd_ne h1] at e
        by_cases h2 : b = P
        · rw [h2, upd_same] at e; cases e
        · rw [upd_ne h2] at e; exact e
    have eL : (ps ++ #[rawInt pos.line, rawInt pos.col, .ref c']).toList = ps.toList ++ [rawInt pos.line, rawInt pos.col, .ref c'] := by simp
    refine h h'.objs.size c' ((X.mg "__name__").getD .none) ctv doc _ _ I1 (Grow.trans ⟨hE, hG⟩ (grow_new nf)) (fun p hp => ?_) (Heap.get?_push_size _ rfl) upd_same ((upd_ne (Nat.ne_of_lt hlt)).trans upd_same)
    refine TabS.ext ?_ fun b o e => (upd_ne (ne_of_none e nf)).trans e
    by_cases hb : p.1 = P
    · rw [hu p hp hb, hb]
      refine ⟨_, by rw [upd_ne (ne_of_none hP nC), upd_same], by rw [eL]; exact PySem.TriplesOk_snoc _ _ _ _ ht, fun p' cv hcv => ?_⟩
      rw [eL] at hcv
      rcases among_app _ ht hcv with z | z
      · obtain ⟨c0, e1, e2⟩ := ha p' cv z
        exact ⟨c0, e1, hE _ _ e2 codeO_ne⟩
      · exact ⟨c', z, upd_same⟩
    · obtain ⟨ps', a1, a2, a3⟩ := hT p hp
      refine ⟨ps', by rw [upd_ne (ne_of_none a1 nC), upd_ne hb]; exact a1, a2, fun p' cv hcv => ?_⟩
      obtain ⟨c0, e1, e2⟩ := a3 p' cv hcv
      exact ⟨c0, e1, hE _ _ e2 codeO_ne⟩
  | some cv =>
    obtain ⟨c', e, hco⟩ := ha pos cv hc
    subst e
    refine PySem.W.kdv_makeTailHit (mg := X.mg) (c := c) (P := P) (ps := ps) (closure_ok hfree) I.ok.glob (I.mod.glob.keeps I.bk) hcode (TB.code.keeps I.bk) hP' ht hc bP fun ctv doc h' tk hx hsz => ?_
    have nf : H h'.objs.size = none := I.hok.fresh hsz
    have I0 : Inv X pins σ H { s with heap := h', toks := tk } := I.kept hx
    have I1 := I0.laid (t' := tk) (a := h'.objs.size) (o := FunO h'.objs.size (PySem.W.kdv_obj "<lambda>" (X.env.qual ++ "<lambda>") params (.expr body) scope (cloFrom X.env.cells scope.names []) dV doc ((X.mg "__name__").getD .none) c' ctv)) (h' := h'.push (PySem.W.kdv_obj "<lambda>" (X.env.qual ++ "<lambda>") params (.expr body) scope (cloFrom X.env.cells scope.names []) dV doc ((X.mg "__name__").getD .none) c' ctv))
      (fun b o e => Heap.get?_push_of_some _ e) (Nat.le_refl _) (funO_ok (Heap.get?_push_size _ rfl))
    exact h h'.objs.size c' ((X.mg "__name__").getD .none) ctv doc _ _ I1 (grow_new nf) (fun p hp => (hT p hp).ext fun b o e => (upd_ne (ne_of_none e nf)).trans e) (Heap.get?_push_size _ rfl) upd_same ((upd_ne (ne_of_none hco nf)).trans hco)
end
/-! ### lambdas as values -/
/-- a lambda without a default, as a value -/
def tLamV (T : List (Addr × Str)) (q : Str) (params : Arguments) (body : Expr) (scope : Scope) : TE := fun σ H Q => Tabs T H ∧ ∀ (f c' : Addr) (pm ctv doc : Value) (H1 : Hp), Grow H H1 → Tabs T H1 →
  H1 f = some (FunO f (PySem.W.kdv_obj "<lambda>" q params (.expr body) scope [] .none doc pm c' ctv)) → H1 c' = some (CodeO c' q) → Q (.ref f) H1
/-- .. with an int as its one default -/
def tLamV1 (T : List (Addr × Str)) (q : Str) (params : Arguments) (body : Expr) (scope : Scope) (i : Int) : TE := fun σ H Q => Tabs T H ∧ ∀ (f c' t : Addr) (k : Tok) (pm ctv doc : Value) (H1 : Hp), Grow H H1 → Tabs T H1 →
  H1 f = some (FunO f (PySem.W.kdv_obj "<lambda>" q params (.expr body) scope [] (.ref t) doc pm c' ctv)) → H1 c' = some (CodeO c' q) → H1 t = some (FunO t (PySem.W.kdv_tup [.int i k])) → Q (.ref f) H1
section
variable {X : Cx} {T : List (Addr × Str)} {c P : Addr} {params : Arguments} {body : Expr} {scope : Scope} {pos : Pos}
theorem clo_nil {cells : List (Str × Addr)} : ∀ {ns : List (Str × NameKind)}, (∀ y ∈ ns, y.2 ≠ .free) → cloFrom cells ns [] = []
  | [], _ => rfl
  | (n, k) :: r, h => by
    have hk := h (n, k) List.mem_cons_self
    have ih := clo_nil (cells := cells) (ns := r) fun y hy => h y (List.mem_cons_of_mem _ hy)
    unfold cloFrom
    cases k with
    | free => exact absurd rfl hk
    | _ => exact ih
theorem pe_lamV (TB : TabB X.base X.mg c P) (hcode : X.env.code = .ref c) (hm : (P, X.env.qual ++ "<lambda>") ∈ T) (hu : ∀ p ∈ T, p.1 = P → p.2 = X.env.qual ++ "<lambda>") (nofree : ∀ y ∈ scope.names, y.2 ≠ .free) (hdef : defaultsOf params X.env = ([], [])) :
    PE X (.Lambda params body scope pos) (tLamV T (X.env.qual ++ "<lambda>") params body scope) := by
  refine ⟨fun pins s σ H Q I h => ?_⟩
  obtain ⟨hT, h⟩ := h
  refine PySem.W.kla_eval hdef ?_
  rw [makeFunction_eq]
  simp only [List.zip_nil_right, List.filterMap_nil, List.isEmpty_nil, if_true, pure_bind]
  refine lam_tailK I TB hcode hm hu hT (fun y hy e => absurd e (nofree y hy)) fun f c' pm ctv doc H1 s' I1 g1 t1 hf hk hc => ?_
  rw [clo_nil nofree] at hk
  exact ⟨.ref f, H1, I1, rfl, h f c' pm ctv doc H1 g1 t1 hk hc⟩
theorem pe_lamV1 {i : Int} {j : Nat} {dp : Pos} (TB : TabB X.base X.mg c P) (hcode : X.env.code = .ref c) (hm : (P, X.env.qual ++ "<lambda>") ∈ T) (hu : ∀ p ∈ T, p.1 = P → p.2 = X.env.qual ++ "<lambda>") (nofree : ∀ y ∈ scope.names, y.2 ≠ .free) (hd : params.defaults = [.Constant (.int i) j dp]) (hk : params.kw_defaults = []) :
    PE X (.Lambda params body scope pos) (tLamV1 T (X.env.qual ++ "<lambda>") params body scope i) := by
  refine ⟨fun pins s σ H Q I h => ?_⟩
  obtain ⟨hT, h⟩ := h
  refine PySem.W.kdv_lam (by rw [hd]; rfl) hk ?_
  rw [hd]
  refine PySem.W.kdv_all1 (wpAny_Constant_int (PySem.W.kdv_all0 ?_))
  have I0 := I.tok (s.toks + 1)
  rw [makeFunction_eq]
  simp only [List.zip_nil_right, List.filterMap_nil, List.isEmpty_nil, if_true, pure_bind, List.isEmpty_cons, Bool.false_eq_true, if_false]
  refine wpAny_bind (wpAny_newTextTuple ?_)
  have nt : H s.heap.objs.size = none := I.hok.fresh (Nat.le_refl _)
  have I1 := I0.laid (t' := s.toks + 1) (a := s.heap.objs.size) (o := FunO s.heap.objs.size (PySem.W.kdv_tup [.int i s.toks])) (h' := s.heap.push (PySem.W.kdv_tup [.int i s.toks])) (fun b o e => Heap.get?_push_of_some _ e) (Nat.le_refl _) (funO_ok (Heap.get?_push_size _ rfl))
  have T1 : Tabs T (upd H s.heap.objs.size (FunO s.heap.objs.size (PySem.W.kdv_tup [.int i s.toks]))) := fun p hp => (hT p hp).ext fun b o e => (upd_ne (ne_of_none e nt)).trans e
  refine lam_tailK I1 TB hcode hm hu T1 (fun y hy e => absurd e (nofree y hy)) fun f c' pm ctv doc H1 s' I2 g1 t1 hf hk' hc => ?_
  rw [clo_nil nofree] at hk'
  refine ⟨.ref f, H1, I2, rfl, h f c' s.heap.objs.size s.toks pm ctv doc H1 ((grow_new nt).trans g1) t1 hk' hc (g1.1 _ _ upd_same fun ps z => ?_)⟩
  unfold FunO at z
  cases z
end
/-- a call of a function whose body is an expression -/
theorem run_lam {CX : CXT} {P : Program} {w : World} {K : PySem.W.Frag} {mg : Str → Option Value} {base : Heap} {k : Nat} {f c' : Addr} {name qual : Str} {params : Arguments} {body : Expr} {scope : Scope} {dV doc pm ctv : Value} {N ps : List Str} (S : FnScope N ps scope)
    {A : Around} {outer : List Env} {s : Shared} {H : Hp} {args : Args} {us : List Value} {vs : List V} {Q : VK} {E : XK} {tb : TE} (of : s.heap.get? f = some (PySem.W.kdv_obj name qual params (.expr body) scope [] dV doc pm c' ctv)) (hcd : s.heap.CodeRec (.ref c') qual) (hr : Room (k + 1) A) (e0 : Env0 P w K mg base A outer s H)
    (hb : BindsTo s (PySem.W.kdv_fn name qual params (.expr body) scope [] dV doc pm (.ref c') ctv) args (ps.zip us)) (r : Vals vs us) (hl : vs.length = ps.length)
    (hbody : Room k (A.deeper (envOfC qual scope s.heap.objs.size f (.ref c'))) → PE (cxOf CX P w K mg base N qual scope f (.ref c') A outer s H E) body tb) (hq : tb (L2.start N vs) H Q) :
    codeAny (model P w) A (.call (.ref f) args) (CR CX outer P w H s Q E) s := by
  have lim : s.heap.NoLimit := e0.mod.nolimit.keeps fun b o e => (e0.bs b o e).1
  have hkind : ∀ y ∈ ps.zip us, scope.names.lookup y.1 = some .local ∨ (scope.names.lookup y.1 = some .cell ∧ ((cellsFrom (s.heap.objs.size + 1) scope.names []).lookup y.1).isSome = true) := fun y hy => by
    rcases S.par y.1 (List.of_mem_zip (a := y.1) (b := y.2) hy).1 with q | q
    · exact .inl q
    · exact .inr ⟨q, PySem.W.cellsFrom_some _ _ _ (.inl q)⟩
  refine PySem.W.kla_callFunE hr.depth of rfl S.co S.gen rfl hcd (hb _ _ _ _ (wpAny_newFunctionEnv_cells S.kind hkind fun env he s1 x => ?_))
  subst he
  refine ⟨lim.keeps x.toInCall.keep, ?_⟩
  have I : Inv (cxOf CX P w K mg base N qual scope f (.ref c') A outer s H E) [] (L2.start N vs) H s1 := inv_start S hr.hd e0 hl r x
  refine PySem.W.kla_codeExpr (wpAny_mono (((hbody (hr.deeper _)).run [] s1 (L2.start N vs) H Q I hq)) (fun u s' z => ?_) fun e s' z => z)
  obtain ⟨v, H', J, rv, q⟩ := z
  exact ⟨v, H', J.os, J.bare, J.base, J.hok, rv, q⟩
end LamX

set_option autoImplicit false
set_option maxHeartbeats 2000000
/-! Sim: names that hold defs or known lambdas; the loop over a list of such. -/
namespace LamX
open PySem PySem.Spec PyProof.Rows L2
/-- a known lambda: what is known of it, what a call of it does -/
structure LamK where
  at_ : Addr → Hp → Prop
  runs : XK → List V → Hp → VK → Prop
structure LamKOk (P : Program) (w : World) (K : PySem.W.Frag) (mg : Str → Option Value) (base : Heap) (k n : Nat) (L : LamK) : Prop where
  fn : ∀ {w' : World} {f : Addr} {H : Hp} {h : Heap}, HOk P w' H h → L.at_ f H → PySem.W.FnAt f h
  run : ∀ (A : Around) (outer : List Env) (s : Shared) (H : Hp) (us : List Value) (vs : List V) (Q : VK) (E : XK) (f : Addr), Room k A → Env0 P w K mg base A outer s H → L.at_ f H → vs.length = n → Vals vs us → L.runs E vs H Q → codeAny (model P w) A (.call (.ref f) ⟨us, []⟩) (CR (L2.CX P w) outer P w H s Q E) s
def KnL0 (q : Str) (params : Arguments) (body : Expr) (scope : Scope) (f : Addr) (H : Hp) : Prop := ∃ (c' : Addr) (pm ctv doc : Value), H f = some (FunO f (PySem.W.kdv_obj "<lambda>" q params (.expr body) scope [] .none doc pm c' ctv)) ∧ H c' = some (CodeO c' q)
def KnL1 (q : Str) (params : Arguments) (body : Expr) (scope : Scope) (i : Int) (f : Addr) (H : Hp) : Prop := ∃ (c' t : Addr) (k : Tok) (pm ctv doc : Value), H f = some (FunO f (PySem.W.kdv_obj "<lambda>" q params (.expr body) scope [] (.ref t) doc pm c' ctv)) ∧ H c' = some (CodeO c' q) ∧ H t = some (FunO t (PySem.W.kdv_tup [.int i k]))
def lamK0 (q : Str) (params : Arguments) (body : Expr) (scope : Scope) (N : List Str) (tb : XK → TE) : LamK := ⟨KnL0 q params body scope, fun E vs H Q => tb E (L2.start N vs) H Q⟩
def lamK1 (q : Str) (params : Arguments) (body : Expr) (scope : Scope) (i : Int) (N : List Str) (tb : XK → TE) : LamK := ⟨KnL1 q params body scope i, fun E vs H Q => tb E (L2.start N (vs ++ [.int i])) H Q⟩
section
variable {P : Program} {w : World} {K : PySem.W.Frag} {mg : Str → Option Value} {base : Heap} {k : Nat} {q : Str} {params : Arguments} {body : Expr} {scope : Scope} {N ps : List Str} {tb : XK → TE}
theorem code_of {w' : World} {H : Hp} {h : Heap} {c' : Addr} (O : HOk P w' H h) (hc : H c' = some (CodeO c' q)) : h.CodeRec (.ref c') q := by
  obtain ⟨⟨oc, vs, t, hoc, hdc, hvc⟩, _, _⟩ := O c' _ hc
  exact ⟨c', oc, vs, t, rfl, hoc, hdc, hvc⟩
theorem fun_of {w' : World} {H : Hp} {h : Heap} {f : Addr} {o : Obj} (O : HOk P w' H h) (hf : H f = some (FunO f o)) : h.get? f = some o := (O f _ hf).1
theorem lamK0_ok (S : FnScope N ps scope) (hb : ∀ us : List Value, us.length = ps.length → ∀ (doc pm cv ctv : Value), bindArgs (PySem.W.kdv_fn "<lambda>" q params (.expr body) scope [] .none doc pm cv ctv) ⟨us, []⟩ = pure (ps.zip us))
    (hbody : ∀ (A : Around) (outer : List Env) (s : Shared) (H : Hp) (E : XK) (f c' : Addr), Room k (A.deeper (envOfC q scope s.heap.objs.size f (.ref c'))) → PE (cxOf (L2.CX P w) P w K mg base N q scope f (.ref c') A outer s H E) body (tb E)) :
    LamKOk P w K mg base (k + 1) ps.length (lamK0 q params body scope N tb) := by
  refine ⟨fun O ⟨c', pm, ctv, doc, hf, hc⟩ => ⟨_, _, _, _, fun_of O hf⟩, fun A outer s H us vs Q E f hr e0 ⟨c', pm, ctv, doc, hf, hc⟩ hl r h => ?_⟩
  exact run_lam S (fun_of e0.hok hf) (code_of e0.hok hc) hr e0 (.of_eq (hb us (by rw [← hl, r.length]) doc pm (.ref c') ctv)) r hl (fun hr' => hbody A outer s H E f c' hr') h
theorem lamK1_ok {i : Int} {x : Str} (S : FnScope N (ps ++ [x]) scope) (hb : ∀ us : List Value, us.length = ps.length → ∀ (dV doc pm cv ctv : Value), ∃ kk : Option (Array Value) → Sem (List (Str × Value)), bindArgs (PySem.W.kdv_fn "<lambda>" q params (.expr body) scope [] dV doc pm cv ctv) ⟨us, []⟩ = seqItems? dV >>= kk ∧ ∀ v : Value, kk (some #[v]) = pure ((ps ++ [x]).zip (us ++ [v])))
    (hbody : ∀ (A : Around) (outer : List Env) (s : Shared) (H : Hp) (E : XK) (f c' : Addr), Room k (A.deeper (envOfC q scope s.heap.objs.size f (.ref c'))) → PE (cxOf (L2.CX P w) P w K mg base N q scope f (.ref c') A outer s H E) body (tb E)) :
    LamKOk P w K mg base (k + 1) ps.length (lamK1 q params body scope i N tb) := by
  refine ⟨fun O ⟨c', t, kt, pm, ctv, doc, hf, hc, ht⟩ => ⟨_, _, _, _, fun_of O hf⟩, fun A outer s H us vs Q E f hr e0 ⟨c', t, kt, pm, ctv, doc, hf, hc, ht⟩ hl r h => ?_⟩
  obtain ⟨kk, e1, e2⟩ := hb us (by rw [← hl, r.length]) (.ref t) doc pm (.ref c') ctv
  refine run_lam (ps := ps ++ [x]) (us := us ++ [Value.int i kt]) (vs := vs ++ [V.int i]) S (fun_of e0.hok hf) (code_of e0.hok hc) hr e0 (BindsTo.of_defaults rfl (fun_of e0.hok ht) rfl e1 (e2 _)) (r.append (.cons (show RelV (V.int i) (Value.int i kt) from ⟨_, rfl⟩) .nil)) (by simp [hl]) (fun hr' => hbody A outer s H E f c' hr') h
end
end LamX
namespace Sim
open PySem L2 PyProof.Rows LamX
/-! ### what is known besides -/
def Clss.plusX (Γ : Clss) (Xs : List (Addr × HO)) : Clss := ⟨Γ.f, Γ.T, Xs ++ Γ.X⟩
def KnX (Xs : List (Addr × HO)) (H : Hp) : Prop := ∀ p ∈ Xs, H p.1 = some p.2 ∧ IsExt p.2
section
variable {K : PySem.W.Frag} {Γ : Clss} {E : XK} {Xs : List (Addr × HO)} {ρ ρ1 : List Addr} {H H1 H' : Hp} {μ μ' : Store} {a : Addr} {o : Ob}
theorem OR.same {Γ Γ' : Clss} (h : Γ.f = Γ'.f) (x : OR K Γ ρ H a o) : OR K Γ' ρ H a o := by
  cases x with
  | lst a b c => exact .lst a b c
  | dk a b => exact .dk a b
  | ins g a b => exact .ins (by rw [← h]; exact g) a b
theorem SR.plusX (S : SR K Γ ρ μ H) (h : KnX Xs H) : SR K (Γ.plusX Xs) ρ μ H :=
  ⟨S.len, S.nd, fun n a o hn ho => OR.same (Γ := Γ) (Γ' := Γ.plusX Xs) (h := rfl) (S.obs n a o hn ho), S.kn.1, fun p hp => (List.mem_append.mp hp).elim (h p) (S.kn.2 p)⟩
theorem SR.less (S : SR K (Γ.plusX Xs) ρ μ H) : SR K Γ ρ μ H :=
  ⟨S.len, S.nd, fun n a o hn ho => OR.same (Γ := Γ.plusX Xs) (Γ' := Γ) (h := rfl) (S.obs n a o hn ho), S.kn.1, fun p hp => S.kn.2 p (List.mem_append_right _ hp)⟩
theorem SR.knX (S : SR K (Γ.plusX Xs) ρ μ H) : KnX Xs H := fun p hp => S.kn.2 p (List.mem_append_left _ hp)
theorem KnX.ext (S : SR K Γ ρ μ H) (h : KnX Xs H) (x : Ext ρ H ρ1 H1) : KnX Xs H1 := fun p hp => by
  obtain ⟨h1, h2⟩ := h p hp
  refine ⟨x.keep _ _ h1 (fun z => ?_) ?_, h2⟩
  · obtain ⟨u, e, m⟩ := S.known z
    rw [h1] at e
    cases e
    exact (mut_plain m).2 h2
  · revert h2
    cases p.2 <;> intro h2 <;> first | trivial | exact h2.elim
theorem post_less {α β : Type} {Rl : List Addr → Hp → β → α → Prop} {r : Rs α} {Q : β → Hp → Prop} (S : SR K (Γ.plusX Xs) ρ μ H) (h : Post K (Γ.plusX Xs) E Rl ρ H r Q) : Post K Γ E Rl ρ H r Q := by
  cases r with
  | ok a μ' => exact fun b ρ' H' x s r => h b ρ' H' x (s.plusX (KnX.ext S S.knX x)) r
  | ex y μ' => exact fun ρ' H' C od x s g d => h ρ' H' C od x (s.plusX (KnX.ext S S.knX x)) g d
  | stuck => exact h
end

/-! ### kind(caught(lambda: e)), where more is known -/
section
variable {K : PySem.W.Frag} {Γ : Clss} {E : XK} {Xs : List (Addr × HO)}
theorem sim_kindP {CP : Addr} {W : Str → Str} {t : XK → TE} {Fb : EG} (hE : ∀ c C, Γ c = some C → PySem.W.exmOne K (.ref C) (.ref CP) = some true) (ht : ∀ E' : XK, SimE K (Γ.plusX Xs) E' (t E') Fb) :
    SimE K (Γ.plusX Xs) E (tCall (spKind K Γ W) [] E0 (tCons (tLamG Γ.T (TCaught K CP) t) tNil)) (kindG W Fb) := fun ρ μ δ σ H S e Q hp => by
  refine ⟨S.kn.1, fun H1 g1 T1 => ?_⟩
  have x1 : Ext ρ H ρ H1 := ext_grow g1
  have S1 := S.grow g1 T1
  refine ht _ ρ μ δ σ H1 S1 (e.ext x1) _ ?_
  unfold kindG at hp
  cases h : Fb δ μ with
  | ok d μ' => rw [h] at hp; exact hp.elim
  | stuck => rw [h] at hp; exact hp.elim
  | ex x μ' =>
    rw [h] at hp
    by_cases hf : x.fs.isEmpty = true
    · simp only [hf, if_true] at hp
      intro ρ' H' C od x2 S2 hC hd
      have hfs : x.fs = [] := List.isEmpty_iff.mp hf
      rw [hfs] at hd
      cases od with
      | some d => exact absurd rfl hd.1
      | none =>
        refine ⟨hE _ _ hC, fun a ha => ?_⟩
        have x3 : Ext ρ' H' ρ' (upd H' a (ExcH a (.ref C) none)) := Ext.new ha
        have S3 := S2.new (ho := ExcH a (.ref C) none) ha
        exact ⟨rfl, a, x.cls, C, ρ', μ', rfl, upd_same, hC, S3.less, post_less S3 (hp.weak ((x1.trans x2).trans x3))⟩
    · simp only [Bool.not_eq_true] at hf
      simp only [hf, Bool.false_eq_true, if_false] at hp
      exact hp.elim
end

/-! ### a call of what a name holds: a def, or a known lambda -/
def tCallY (i n : Nat) (S : Addr → Option Sp) (Ls : List LamK) (E : XK) (t : TA) : TE := fun σ H Q => ∃ f, σ[i]? = some (some (.ref f)) ∧
  ((∃ sp, S f = some sp ∧ t σ H fun vs H1 => sp vs H1 Q E) ∨ ∃ L ∈ Ls, L.at_ f H ∧ t σ H fun vs H1 => vs.length = n ∧ L.at_ f H1 ∧ L.runs E vs H1 Q)
theorem pe_askY {X : Cx} {Γ : Clss} {E : XK} {k i n : Nat} {x : Str} {p pos : Pos} {e : Expr} {es : List Expr} {t : TA} {cs : List (Addr × Fn)} {Ls : List LamK} (A : ∀ q ∈ cs, HeldX X.prog X.w X.K Γ X.mg X.base k n q) (B : ∀ L ∈ Ls, LamKOk X.prog X.w X.K X.mg X.base k n L) (hr : Room k X.A) (hN : X.N[i]? = some x) (hv : Vis X.env.scope x) (hx : Passes (L2.CX X.prog X.w) X E) (ha : PA X (e :: es) t)
    (hdb : (x == ("__debug__" : Str)) = false := by decide) (hcd : (x == ("__classdict__" : Str)) = false := by decide)
    (he : starEach (e :: es) X.env = (false, eval e X.env) :: starEach es X.env := by rfl) (hpl : (backTo pos (starEach es X.env)).any (·.1) = false := by rfl) : PE X (.Call (.Name x p) (e :: es) [] pos) (tCallY i n (fun d => (findF cs d).map (spX X.K Γ n)) Ls E t) := by
  refine ⟨fun pins s σ H Q I h => ?_⟩
  obtain ⟨f, hs, h | ⟨L, hL, hat, ht⟩⟩ := h
  · obtain ⟨sp, hS, ht⟩ := h
    exact (pe_askX (cs := cs) (E := E) A hr hN hv hx ha hdb hcd he hpl).run pins s σ H Q I ⟨f, sp, hs, hS, ht⟩
  · refine wpAny_Call_Name_kw (thn ((pe_var (pos := p) hN hv hdb hcd).run pins s σ H (fun v H1 => v = .ref f ∧ H1 = H) I ⟨.ref f, hs, rfl, rfl⟩) fun u s1 ⟨v, H1, I1, r1, q1⟩ => ?_)
    obtain ⟨rfl, rfl⟩ := q1
    cases r1
    refine PySem.W.callWith_F (first := []) ((B L hL).fn I1.hok hat) (thn (ha.run pos pins s1 σ _ _ I1 ht) fun us s2 ⟨vs, H2, I2, r, q⟩ => ⟨(B L hL).fn I2.hok q.2.1, ?_⟩) he hpl
    obtain ⟨hl, hat2, hq⟩ := q
    refine wpAny_call (codeAny_mono ((B L hL).run X.A X.stack s2 H2 us vs Q E f hr I2.env0 hat2 hl r hq) fun r s' hq => ?_)
    cases r with
    | error e => exact hx pins σ H2 s2 e s' I2 hq
    | ok fl =>
      cases fl with
      | ret u => exact I2.after hq
      | next => exact False.elim hq
      | brk => exact False.elim hq
      | cont => exact False.elim hq
/-- what a known lambda is borne out by -/
def HeldL (K : PySem.W.Frag) (Γ : Clss) (n : Nat) (Xs : List (Addr × HO)) (Ls : List LamK) (p : Addr × Fn) : Prop :=
  ∃ L ∈ Ls, (∀ H, KnX Xs H → L.at_ p.1 H) ∧ ∀ (E : XK) (ρ : List Addr) (μ : Store) (H : Hp) (vs : List V) (ds : List D) (Q : VK), SR K (Γ.plusX Xs) ρ μ H → RVs K ρ H vs ds → vs.length = n → Post K (Γ.plusX Xs) E (RV K) ρ H (p.2 ds μ) Q → L.runs E vs H Q
theorem findF_app {cs ks : List (Addr × Fn)} {d : Addr} {F : Fn} (h : findF (cs ++ ks) d = some F) : findF cs d = some F ∨ findF ks d = some F := by
  induction cs with
  | nil => exact .inr h
  | cons p r ih =>
    rw [List.cons_append] at h
    have h2 : (if d = p.1 then some p.2 else findF (r ++ ks) d) = some F := h
    by_cases e : d = p.1
    · rw [if_pos e] at h2
      exact .inl (show (if d = p.1 then some p.2 else findF r d) = some F by rw [if_pos e]; exact h2)
    · rw [if_neg e] at h2
      exact (ih h2).imp (fun z => show (if d = p.1 then some p.2 else findF r d) = some F by rw [if_neg e]; exact z) id
section
variable {K : PySem.W.Frag} {Γ : Clss} {E : XK} {La : AG} {Xs : List (Addr × HO)}
theorem sim_askY {i n : Nat} {cs ks : List (Addr × Fn)} {Ls : List LamK} {t : TA} (hL : ∀ p ∈ ks, HeldL K Γ n Xs Ls p) (ha : SimA K (Γ.plusX Xs) E t La) (hk : ∀ δ μ ds μ', La δ μ = .ok ds μ' → ds.length = n) :
    SimE K (Γ.plusX Xs) E (tCallY i n (fun d => (findF cs d).map (spX K Γ n)) Ls E t) (askG i (cs ++ ks) La) := fun ρ μ δ σ H S e Q hp => by
  unfold askG at hp
  cases h : δ[i]? with
  | none => simp only [h] at hp; exact hp.elim
  | some o => cases o with
    | none => simp only [h] at hp; exact hp.elim
    | some d => cases d with
      | adr d =>
        simp only [h] at hp
        cases hF : findF (cs ++ ks) d with
        | none => simp only [hF] at hp; exact hp.elim
        | some F =>
          simp only [hF] at hp
          obtain ⟨v, h1, h2⟩ := e.get i _ h
          cases h2
          refine ⟨d, h1, ?_⟩
          unfold callG bnd at hp
          rcases findF_app hF with z | z
          · refine .inl ⟨spX K Γ n F, (congrArg (Option.map (spX K Γ n)) z).trans rfl, ?_⟩
            refine ha ρ μ δ σ H S e _ ?_
            cases h : La δ μ with
            | ex y μ' => rw [h] at hp; exact hp
            | stuck => rw [h] at hp; exact hp.elim
            | ok ds μ' =>
              rw [h] at hp
              intro vs ρ' H' x s r
              exact ⟨r.length.trans (hk δ μ ds μ' h), ρ', μ', ds, s.less, r, post_less s (hp.weak x)⟩
          · obtain ⟨L, hm, h3, h4⟩ := hL _ (findF_mem z)
            refine .inr ⟨L, hm, h3 H S.knX, ?_⟩
            refine ha ρ μ δ σ H S e _ ?_
            cases h : La δ μ with
            | ex y μ' => rw [h] at hp; exact hp
            | stuck => rw [h] at hp; exact hp.elim
            | ok ds μ' =>
              rw [h] at hp
              intro vs ρ' H' x s r
              have hl := r.length.trans (hk δ μ ds μ' h)
              exact ⟨hl, h3 H' s.knX, h4 E ρ' μ' H' vs ds Q s r hl (hp.weak x)⟩
      | _ => simp only [h] at hp; exact hp.elim
/-- a lambda's body, as a function of its arguments -/
def lamFn (N : List Str) (more : List D) (g : EG) : Fn := fun ds => g ((ds ++ more).map some ++ List.replicate (N.length - (ds ++ more).length) none)
theorem held0 {n : Nat} {q : Str} {params : Arguments} {body : Expr} {scope : Scope} {N : List Str} {tb : XK → TE} {g : EG} {f : Addr} {Ls : List LamK} (hm : lamK0 q params body scope N tb ∈ Ls) (hX : ∀ H, KnX Xs H → KnL0 q params body scope f H) (hs : ∀ E' : XK, SimE K (Γ.plusX Xs) E' (tb E') g) : HeldL K Γ n Xs Ls (f, lamFn N [] g) := by
  refine ⟨_, hm, hX, fun E ρ μ H vs ds Q S r hl hp => ?_⟩
  have r2 : RVs K ρ H vs (ds ++ []) := by rw [List.append_nil]; exact r
  have e2 := er_start (N := N.length - (ds ++ []).length) r2
  show tb E (vs.map some ++ List.replicate (N.length - vs.length) none) H Q
  rw [r2.length]
  exact hs E ρ μ _ _ H S e2 Q hp
theorem rvs_app {ρ : List Addr} {H : Hp} {us : List V} {cs : List D} (r2 : RVs K ρ H us cs) : ∀ {vs : List V} {ds : List D}, RVs K ρ H vs ds → RVs K ρ H (vs ++ us) (ds ++ cs)
  | _, _, .nil => r2
  | _, _, .cons h t => .cons h (rvs_app r2 t)
theorem held1 {n : Nat} {q : Str} {params : Arguments} {body : Expr} {scope : Scope} {i : Int} {N : List Str} {tb : XK → TE} {g : EG} {f : Addr} {Ls : List LamK} (hm : lamK1 q params body scope i N tb ∈ Ls) (hX : ∀ H, KnX Xs H → KnL1 q params body scope i f H) (hs : ∀ E' : XK, SimE K (Γ.plusX Xs) E' (tb E') g) : HeldL K Γ n Xs Ls (f, lamFn N [.int i] g) := by
  refine ⟨_, hm, hX, fun E ρ μ H vs ds Q S r hl hp => ?_⟩
  have r2 : RVs K ρ H (vs ++ [V.int i]) (ds ++ [D.int i]) := rvs_app (.cons (.int i) .nil) r
  have e2 := er_start (N := N.length - (ds ++ [D.int i]).length) r2
  show tb E ((vs ++ [V.int i]).map some ++ List.replicate (N.length - (vs ++ [V.int i]).length) none) H Q
  rw [r2.length]
  exact hs E ρ μ _ _ H S e2 Q hp
end

/-! ### the loop over three defs and two lambdas -/
open Classical in
/-- what the loop does, wherever the lambdas come to stand -/
noncomputable def loopG (i : Nat) (G : Addr → Addr → SG) : SG := fun δ μ => if (∀ a b, ∃ x, G a b δ μ = .nx (δ.set i x) μ) then .nx (δ.set i none) μ else .stuck
section
variable {K : PySem.W.Frag} {Γ : Clss} {E : XK}
theorem ER.unset {ρ : List Addr} {H : Hp} {σ : L2.St} {δ : Dn} {i : Nat} {x : Option D} (e : ER K ρ H σ (δ.set i x)) : ER K ρ H σ (δ.set i none) := by
  refine ⟨by rw [e.len, List.length_set, List.length_set], fun j d h => ?_⟩
  by_cases hij : i = j
  · subst hij
    by_cases hi : i < δ.length
    · rw [List.getElem?_set_self hi] at h; cases h
    · rw [List.getElem?_eq_none (by simpa using hi)] at h; cases h
  · rw [List.getElem?_set_ne hij] at h
    exact e.get j d (by rw [List.getElem?_set_ne hij]; exact h)
theorem ss_askLoop {i : Nat} {q : Str} {pA pB : Arguments} {bA bB : Expr} {sA sB : Scope} {dB : Int} {v1 v2 v3 : Addr} {tb : TS} {Gb : Addr → Addr → SG}
    (hbody : ∀ (a b : Addr) (Xs : List (Addr × HO)), (∀ H, KnX Xs H → KnL0 q pA bA sA a H) → (∀ H, KnX Xs H → KnL1 q pB bB sB dB b H) → SimS K (Γ.plusX Xs) E tb (Gb a b)) :
    SimS K Γ E (tFor (iSeq K (tLst (tCons (tC (.ref v1)) (tCons (tC (.ref v2)) (tCons (tC (.ref v3)) (tCons (tLamV Γ.T q pA bA sA) (tCons (tLamV1 Γ.T q pB bB sB dB) tNil))))))) (gName i) tb)
      (loopG i fun a b => forG (srcL (lstG (consG (cG (.adr v1)) (consG (cG (.adr v2)) (consG (cG (.adr v3)) (consG (cG (.adr a)) (consG (cG (.adr b)) nilG))))))) (nmF i) (Gb a b)) := fun ρ μ δ σ H S e T hp => by
  unfold loopG at hp
  split at hp
  case isFalse => exact hp.elim
  case isTrue hall =>
  refine ⟨S.kn.1, fun fA cA pmA ctA docA H1 g1 T1 a1 a2 => ⟨T1, fun fB cB tB kB pmB ctB docB H2 g2 T2 b1 b2 b3 => ?_⟩⟩
  have kp : ∀ {b o}, H1 b = some o → IsExt o → H2 b = some o := fun {b o} h n => g2.1 b o h fun ps z => by rw [z] at n; exact n
  have a1' := kp a1 trivial
  have a2' := kp a2 trivial
  have S2 := (S.grow g1 T1).grow g2 T2
  have x2 : Ext ρ H ρ H2 := (ext_grow g1).trans (ext_grow g2)
  have hK : KnX [(fA, FunO fA (PySem.W.kdv_obj "<lambda>" q pA (.expr bA) sA [] .none docA pmA cA ctA)), (cA, CodeO cA q), (fB, FunO fB (PySem.W.kdv_obj "<lambda>" q pB (.expr bB) sB [] (.ref tB) docB pmB cB ctB)), (cB, CodeO cB q), (tB, FunO tB (PySem.W.kdv_tup [.int dB kB]))] H2 := fun p hp => by
    simp only [List.mem_cons, List.not_mem_nil, or_false] at hp
    rcases hp with rfl | rfl | rfl | rfl | rfl
    · exact ⟨a1', trivial⟩
    · exact ⟨a2', trivial⟩
    · exact ⟨b1, trivial⟩
    · exact ⟨b2, trivial⟩
    · exact ⟨b3, trivial⟩
  obtain ⟨x, hx⟩ := hall fA fB
  have main := ss_for (E := E) (sim_seqL (sim_lst (sim_cons (sim_adr (a := v1)) (sim_cons (sim_adr (a := v2)) (sim_cons (sim_adr (a := v3)) (sim_cons (sim_adr (a := fA)) (sim_cons (sim_adr (a := fB)) sim_nil))))))) (g_name (i := i))
    (hbody fA fB _ (fun H h => ⟨cA, pmA, ctA, docA, (h _ (.head _)).1, (h _ (.tail _ (.head _))).1⟩) (fun H h => ⟨cB, tB, kB, pmB, ctB, docB, (h _ (.tail _ (.tail _ (.head _)))).1, (h _ (.tail _ (.tail _ (.tail _ (.head _))))).1, (h _ (.tail _ (.tail _ (.tail _ (.tail _ (.head _)))))).1⟩))
    ρ μ δ σ H2 (S2.plusX hK) (e.ext x2) T (by
      have hx2 : forG (srcL (lstG (consG (cG (.adr v1)) (consG (cG (.adr v2)) (consG (cG (.adr v3)) (consG (cG (.adr fA)) (consG (cG (.adr fB)) nilG))))))) (nmF i) (Gb fA fB) δ μ = .nx (δ.set i x) μ := hx
      rw [hx2]
      intro σ' ρ' H' y S' e'
      exact hp σ' ρ' H' (x2.trans y) S'.less e'.unset)
  exact main
end
end Sim
namespace Sim
open PySem L2 PyProof.Rows LamX
/-! ### repr of data or None -/
def rReprN (K : PySem.W.Frag) : List V → Hp → VK → Prop := fun xs H Q => (xs = [.non] ∧ Q (.str "None") H) ∨ rRepr K xs H Q
theorem call_reprN {X : Cx} (hg : X.A.guards = some []) (hu : X.A.units + 64 < cLine) : CallR X (.builtin "repr") (rReprN X.K) := by
  intro pins s σ H xs us Q I r h
  rcases h with ⟨rfl, q⟩ | h
  · cases r with
    | cons rx rr =>
      cases rr
      cases rx
      exact PySem.P.repr_of_none ⟨.str "None", H, I.tok _, ⟨_, rfl⟩, q⟩
  · exact call_repr hg hu pins s σ H xs us Q I r h
def okReprN (d : D) : Bool := match d with
  | .non => true
  | d => okRepr d
def reprNeNG (a b : EG) : EG := fun δ => bnd (a δ) fun d => if okReprN d = true then bnd (b δ) (fun e => if d = e then ret (.bl false) else stk) else stk
section
variable {K : PySem.W.Frag} {Γ : Clss} {E : XK} {ta tb : TE} {Fa Fb : EG}
theorem okReprN_at {ρ : List Addr} {H : Hp} {v : V} {d : D} (r : RV K ρ H v d) (h : okReprN d = true) : (d = .non ∧ v = .non) ∨ ∃ (a : Addr) (p : PyData), v = .ref a ∧ d.py = some p ∧ Dp K H (.ref a) p ∧ okShown p = true := by
  cases r with
  | non => exact .inl ⟨rfl, rfl⟩
  | @tup a xs ds h1 h2 h3 => exact .inr (okRepr_at (RV.tup h1 h2 h3) h)
  | _ => cases h
theorem sim_reprNeN (ha : SimE K Γ E ta Fa) (hb : SimE K Γ E tb Fb) : SimE K Γ E (tOp rNe (tCB (rReprN K) (tCons ta tNil)) (tCB (rReprN K) (tCons tb tNil))) (reprNeNG Fa Fb) := fun ρ μ δ σ H S e Q hp => by
  refine ha.go S e hp fun v d ρ1 μ1 H1 x1 S1 r1 hp1 => ?_
  by_cases hok : okReprN d = true
  · simp only [if_pos hok] at hp1
    rcases okReprN_at r1 hok with ⟨rfl, rfl⟩ | ⟨a, p, rfl, hpy, hd, hs⟩
    · refine .inl ⟨rfl, ?_⟩
      refine hb.go S1 (e.ext x1) hp1 fun w c ρ2 μ2 H2 x2 S2 r2 hp2 => ?_
      by_cases hc : D.non = c
      · subst hc
        simp only [if_pos] at hp2
        cases r2
        refine .inl ⟨rfl, rfl, ?_⟩
        rw [decide_eq_true rfl]
        exact hp2 _ ρ2 H2 Ext.refl S2 (.bl false)
      · simp only [if_neg hc] at hp2
        exact hp2.elim
    · refine .inr ⟨a, p, rfl, hd, hs, ?_⟩
      refine hb.go S1 (e.ext x1) hp1 fun w c ρ2 μ2 H2 x2 S2 r2 hp2 => ?_
      by_cases hc : d = c
      · subst hc
        simp only [if_pos] at hp2
        rcases okReprN_at r2 hok with ⟨hz, _⟩ | ⟨b, q, rfl, hqy, hd2, hs2⟩
        · rw [hz] at r1; cases r1
        rw [hpy] at hqy
        cases hqy
        refine .inr ⟨b, p, rfl, hd2, hs2, rfl, ?_⟩
        rw [decide_eq_true rfl]
        exact hp2 _ ρ2 H2 Ext.refl S2 (.bl false)
      · simp only [if_neg hc] at hp2
        exact hp2.elim
  · simp only [if_neg hok] at hp1
    exact hp1.elim
/-- a def that raises, called where more is known -/
theorem sim_callXP {Xs : List (Addr × HO)} {k : Nat} {F : Fn} {t : TA} {La : AG} (ha : SimA K (Γ.plusX Xs) E t La) (hk : ∀ δ μ ds μ', La δ μ = .ok ds μ' → ds.length = k) : SimE K (Γ.plusX Xs) E (tCall (spX K Γ k F) [] E t) (callG F La) := fun ρ μ δ σ H S e Q hp => by
  unfold callG bnd at hp
  refine ha ρ μ δ σ H S e _ ?_
  cases h : La δ μ with
  | ex y μ' => rw [h] at hp; exact hp
  | stuck => rw [h] at hp; exact hp.elim
  | ok ds μ' =>
    rw [h] at hp
    intro vs ρ' H' x s r
    rw [List.append_nil]
    exact ⟨r.length.trans (hk δ μ ds μ' h), ρ', μ', ds, s.less, r, post_less s (hp.weak x)⟩
end
end Sim
/-! ### where a lambda stands in a text -/
namespace Sim
open PySem L2
def forBody : Stmt → List Stmt
  | .For _ _ b _ _ => b
  | _ => []
def lamElt (i : Nat) : Stmt → Expr
  | .For _ (.List es _) _ _ _ => es.getD i (.Constant .none 0 ⟨0, 0, 0, 0⟩)
  | _ => .Constant .none 0 ⟨0, 0, 0, 0⟩
def lamP : Expr → Arguments
  | .Lambda p _ _ _ => p
  | _ => defArgs (.Pass ⟨0, 0, 0, 0⟩)
def lamB : Expr → Expr
  | .Lambda _ b _ _ => b
  | e => e
def lamS : Expr → Scope
  | .Lambda _ _ s _ => s
  | _ => defScope (.Pass ⟨0, 0, 0, 0⟩)
end Sim

/-! The defs of the text as functions. -/
namespace K23
open PySem L2 Sim
/-- where the defs stand -/
structure Ad where
  is_number : Addr
  is_within : Addr
  others_of : Addr
  all_of : Addr
  triples_of : Addr
  meeting : Addr
  _law_begun : Addr
  _law_blended : Addr
  _law_caught : Addr
  _law_is_truth : Addr
  _law_ll_within : Addr
  _law_ll_threes : Addr
  _law_ll_rest : Addr
  _law_ll_kind : Addr
  is_count : Addr
  may_all_lie : Addr
  three_by : Addr
  _law_draw : Addr
  _law_ll_may : Addr
  _law_ll_first : Addr
  _law_ll_binds : Addr
  is_group : Addr
  need_many : Addr
  _law_pick : Addr
  _law_mixed : Addr
  _law_ll_group : Addr
  need_lots : Addr
  need_group : Addr
  _law_ll_lots : Addr
  _law_k23_bad : Addr
  may_lie : Addr
  is_enough : Addr
  three_lots : Addr
  is_binding : Addr
  crossing_votes : Addr
  is_crossing_votes : Addr
  need_family : Addr
  enough_groups : Addr
  is_live : Addr
  law : Addr
  PurseError : Addr
  BadMany : Addr
  BadLots : Addr
  BadGroup : Addr
  BadFamily : Addr
  BadWeights : Addr
/-- the word of a class -/
def wordOf (c : Str) : Str := if c = "BadMany" then "many" else if c = "BadLots" then "lots" else if c = "BadGroup" then "group" else if c = "BadFamily" then "family" else if c = "BadWeights" then "weights" else "other"
def G_is_number : SG := (retG (andG (caG isiC (consG (vG 0) (consG (cG (.ty "int")) nilG))) (andG (notG (caG isiC (consG (vG 0) (consG (cG (.ty "bool")) nilG)))) (chainG leD ltD (vG 1) (vG 0) (cG (.int 1000000000000000000))))))
def F_is_number : Fn := (trimP (fnG 2 G_is_number))
def G_is_within : SG := (retG (cLG allC (lcG [2] (srcG (vG 0)) (nmF 2) yesB (opG (inD false) (vG 2) (vG 1)))))
def F_is_within : Fn := (trimP (fnG 3 G_is_within))
def G_others_of : SG := (retG (cLG tupC (lcG [2] (rng1G (consG (vG 0) nilG)) (nmF 2) (tB1 (opG (inD true) (vG 2) (vG 1))) (vG 2))))
def F_others_of : Fn := (trimP (fnG 3 G_others_of))
def G_all_of : SG := (retG (cLG tupC (cLLG setIC (lc2G [1, 2] [2] (srcG (vG 0)) (nmF 1) yesB (srcG (vG 1)) (nmF 2) yesB (vG 2)))))
def F_all_of : Fn := (trimP (fnG 3 G_all_of))
def G_triples_of : SG := (seqG (setG (nmF 1) (allocG (lstG nilG))) (seqG (forG (enumG (consG (vG 0) nilG)) (tpF 2 (consF (nmF 2) (consF (nmF 3) nilF))) (forG (enumG (consG (slTG (vG 0) (partG (vG 2)) noPartG) nilG)) (tpF 2 (consF (nmF 4) (consF (nmF 5) nilF))) (dropG (extMG (vG 1) (.new (lcG [6] (srcG (slTG (vG 0) (partG (opG addD (vG 2) (vG 4))) noPartG)) (nmF 6) yesB (tupG (consG (vG 3) (consG (vG 5) (consG (vG 6) nilG)))))))))) (retG (vG 1))))
def F_triples_of : Fn := (fnG 7 G_triples_of)
def G_meeting : SG := (retG (cLG tupC (lcG [2] (srcG (vG 0)) (nmF 2) (tB1 (opG (inD false) (vG 2) (vG 1))) (vG 2))))
def F_meeting : Fn := (trimP (fnG 3 G_meeting))
def G__law_begun : SG := (seqG (setG (nmF 1) (allocG (lcG [2] (srcG (vG 0)) (nmF 2) (tB1 (opG geD (caG (c1 absD) (consG (vG 2) nilG)) (opG powD (cG (.int 10)) (cG (.int 18))))) (opG subD (caG (c1 absD) (consG (vG 2) nilG)) (opG powD (cG (.int 10)) (cG (.int 18))))))) (retG (dispG (consPG (cG (.str "great")) (vG 1) (consPG (cG (.str "cells")) (allocG (lcG [2] (srcG (vG 0)) (nmF 2) yesB (caG (c1 absD) (consG (vG 2) nilG)))) (consPG (cG (.str "left")) (cG (.int 0)) (consPG (cG (.str "turn")) (cG (.int 0)) nilPG)))))))
def F__law_begun : Fn := (fnG 3 G__law_begun)
def G__law_blended : SG := (seqG (parG 1 2 (consG (opG addD (dgetG (vG 0) (cG (.str "turn"))) (cG (.int 1))) (consG (cG (.int 0)) nilG))) (seqG (dputG (vG 0) (cG (.str "turn")) (vG 1)) (seqG (forG (srcL (lstG (consG (cG (.int 2147483249)) (consG (cG (.int 2147483237)) (consG (cG (.int 2147483179)) nilG))))) (nmF 3) (seqG (setG (nmF 4) (opG addD (opG mulD (cG (.int 39373)) (vG 1)) (opG fdivD (vG 3) (cG (.int 73))))) (seqG (forG (srcG (dgetG (vG 0) (cG (.str "cells")))) (nmF 5) (setG (nmF 4) (opG modD (caG (c1 intC) (consG (opG addD (opG addD (opG mulD (vG 4) (cG (.int 69621))) (vG 5)) (vG 1)) nilG)) (vG 3)))) (setG (nmF 2) (opG addD (opG mulD (vG 2) (cG (.int 2147483647))) (opG modD (caG (c1 intC) (consG (opG powD (vG 4) (cG (.int 5))) nilG)) (vG 3))))))) (retG (vG 2)))))
def F__law_blended : Fn := (trimW (fnG 6 G__law_blended))
def G__law_is_truth : SG := (retG (ifG (tB1 (vG 1)) (opG (blD fun i j => decide (i = j)) (vG 0) (cG (.bl true))) (opG (blD fun i j => decide (i = j)) (vG 0) (cG (.bl false)))))
def F__law_is_truth : Fn := (trimP (fnG 2 G__law_is_truth))
def G__law_ll_within : SG := (retG (nilLG false (.new (lcG [2] (srcG (vG 0)) (nmF 2) (tB1 (opG (inD true) (vG 2) (vG 1))) (cG (.int 1))))))
def F__law_ll_within : Fn := (trimP (fnG 3 G__law_ll_within))
def G__law_ll_threes : SG := (seqG (setG (nmF 1) (allocG (lstG nilG))) (seqG (forG (rng1G (consG (caG (c1 lenD) (consG (vG 0) nilG)) nilG)) (nmF 2) (forG (rng2G (consG (vG 2) (consG (caG (c1 lenD) (consG (vG 0) nilG)) nilG))) (nmF 3) (setG (nmF 1) (allocG (catG (.val (vG 1)) (.new (lcG [4] (rng2G (consG (vG 3) (consG (caG (c1 lenD) (consG (vG 0) nilG)) nilG))) (nmF 4) yesB (tupG (consG (opG ixD (vG 0) (vG 2)) (consG (opG ixD (vG 0) (vG 3)) (consG (opG ixD (vG 0) (vG 4)) nilG))))))))))) (retG (vG 1))))
def F__law_ll_threes : Fn := (fnG 5 G__law_ll_threes)
def G__law_ll_rest : SG := (retG (cLG tupC (lcG [2] (rng1G (consG (vG 0) nilG)) (nmF 2) (tB1 (opG (inD true) (vG 2) (vG 1))) (vG 2))))
def F__law_ll_rest : Fn := (trimP (fnG 3 G__law_ll_rest))
def G__law_ll_kind (a : Addr) (c : Str) : SG := (seqG (setG (nmF 1) (allocG (lstG (consG (tupG (consG (cG (.str "many")) (consG (isxG 0 a (decide (c = "BadMany"))) nilG))) (consG (tupG (consG (cG (.str "lots")) (consG (isxG 0 a (decide (c = "BadLots"))) nilG))) (consG (tupG (consG (cG (.str "group")) (consG (isxG 0 a (decide (c = "BadGroup"))) nilG))) (consG (tupG (consG (cG (.str "family")) (consG (isxG 0 a (decide (c = "BadFamily"))) nilG))) (consG (tupG (consG (cG (.str "weights")) (consG (isxG 0 a (decide (c = "BadWeights"))) nilG))) nilG)))))))) (seqG (setG (nmF 2) (allocG (lcG [3, 4] (srcG (vG 1)) (tpF 2 (consF (nmF 3) (consF (nmF 4) nilF))) (tB1 (vG 4)) (vG 3)))) (retG (ifG (tB1 (opG (eqD false) (caG (c1 lenD) (consG (vG 2) nilG)) (cG (.int 1)))) (opG ixD (vG 2) (cG (.int 0))) (cG (.str "other"))))))
def G_is_count : SG := (retG (andG (callG F_is_number (consG (vG 0) (consG (vG 1) nilG))) (opG leD (vG 0) (vG 2))))
def F_is_count : Fn := (trimP (fnG 3 G_is_count))
def G_may_all_lie : SG := (retG (cLG anyC (lcG [2] (srcG (vG 0)) (nmF 2) yesB (callG F_is_within (consG (vG 1) (consG (vG 2) nilG))))))
def F_may_all_lie : Fn := (trimP (fnG 3 G_may_all_lie))
def G_three_by : SG := (seqG (forG (srcG (callG F_triples_of (consG (vG 1) nilG))) (nmF 2) (iteG (tB1 (opG (eqD false) (caG (c1 lenD) (consG (callG F_all_of (consG (vG 2) nilG)) nilG)) (vG 0))) (retG (vG 2)) nextG)) (retG (cG .non)))
def F_three_by : Fn := (trimP (fnG 3 G_three_by))
def G__law_draw : SG := (seqG (iteG (tB1 (opG (eqD false) (dgetG (vG 0) (cG (.str "left"))) (cG (.int 0)))) (dputG (vG 0) (cG (.str "left")) (ifG (tB1 (nilLG true (.val (dgetG (vG 0) (cG (.str "great")))))) (popG (dgetG (vG 0) (cG (.str "great"))) (cG (.int 0))) (callG F__law_blended (consG (vG 0) nilG)))) nextG) (seqG (setG (nmF 2) (opG modD (caG (c1 intC) (consG (dgetG (vG 0) (cG (.str "left"))) nilG)) (vG 1))) (seqG (dputG (vG 0) (cG (.str "left")) (opG fdivD (dgetG (vG 0) (cG (.str "left"))) (vG 1))) (retG (vG 2)))))
def F__law_draw : Fn := (trimW (fnG 3 G__law_draw))
def G__law_ll_may : SG := (retG (nilLG true (.new (lcG [2] (srcG (vG 0)) (nmF 2) (tB1 (callG F__law_ll_within (consG (vG 1) (consG (vG 2) nilG)))) (cG (.int 1))))))
def F__law_ll_may : Fn := (trimP (fnG 3 G__law_ll_may))
def G__law_ll_first : SG := (seqG (setG (nmF 2) (allocG (lcG [3] (srcG (callG F__law_ll_threes (consG (vG 1) nilG))) (nmF 3) (tB1 (opG (eqD false) (cQ1G lenSetC (opG addD (opG addD (opG ixD (vG 3) (cG (.int 0))) (opG ixD (vG 3) (cG (.int 1)))) (opG ixD (vG 3) (cG (.int 2))))) (vG 0))) (vG 3)))) (retG (ifG (tB1 (nilLG true (.val (vG 2)))) (opG ixD (vG 2) (cG (.int 0))) (cG .non))))
def F__law_ll_first : Fn := (trimP (fnG 4 G__law_ll_first))
def G__law_ll_binds : SG := (seqG (setG (nmF 3) (callG F__law_ll_rest (consG (vG 0) (consG (vG 2) nilG)))) (retG (nilLG true (.new (lcG [4] (srcG (callG F__law_ll_threes (consG (vG 1) nilG))) (nmF 4) (tB1 (callG F__law_ll_within (consG (vG 3) (consG (opG addD (opG addD (opG ixD (vG 4) (cG (.int 0))) (opG ixD (vG 4) (cG (.int 1)))) (opG ixD (vG 4) (cG (.int 2)))) nilG)))) (cG (.int 1)))))))
def F__law_ll_binds : Fn := (trimP (fnG 5 G__law_ll_binds))
def G_is_group : SG := (seqG (iteG (orB (notB (tB1 (caG isiC (consG (vG 1) (consG (cG (.ty "tuple")) nilG))))) (notB (tB1 (cLG allC (lcG [2] (srcG (vG 1)) (nmF 2) yesB (callG F_is_count (consG (vG 2) (consG (cG (.int 0)) (consG (opG subD (vG 0) (cG (.int 1))) nilG))))))))) (retG (cG (.bl false))) nextG) (retG (cLG allC (lcG [2, 3] (zipG (consG (vG 1) (consG (slTG (vG 1) (partG (cG (.int 1))) noPartG) nilG))) (tpF 2 (consF (nmF 2) (consF (nmF 3) nilF))) yesB (opG ltD (vG 2) (vG 3))))))
def F_is_group : Fn := (trimP (fnG 4 G_is_group))
def G_need_many : SG := (iteG (notB (tB1 (callG F_is_count (consG (vG 0) (consG (cG (.int 1)) (consG (cG (.int 7)) nilG)))))) noG nextG)
def F_need_many : Fn := (trimP (fnG 1 G_need_many))
def GX_need_many : SG := (iteG (notB (tB1 (callG (noex F_is_count) (consG (vG 0) (consG (cG (.int 1)) (consG (cG (.int 7)) nilG)))))) (raiseG "BadMany") nextG)
def X_need_many : Fn := (trimX (fnG 1 GX_need_many))
def G__law_pick : SG := (retG (opG ixD (vG 1) (callG F__law_draw (consG (vG 0) (consG (caG (c1 lenD) (consG (vG 1) nilG)) nilG)))))
def F__law_pick : Fn := (trimW (fnG 2 G__law_pick))
def G__law_mixed : SG := (seqG (parG 2 3 (consG (allocG (lstOfG (vG 1))) (consG (allocG (lstG nilG)) nilG))) (seqG (whileG (tB1 (nilLG true (.val (vG 2)))) (dropG (appMG (vG 3) (popG (vG 2) (callG F__law_draw (consG (vG 0) (consG (caG (c1 lenD) (consG (vG 2) nilG)) nilG)))))) 1000) (retG (vG 3))))
def F__law_mixed : Fn := (fnG 4 G__law_mixed)
def G__law_ll_group : SG := (retG (cLG tupC (lcG [2] (rng1G (consG (vG 1) nilG)) (nmF 2) (tB1 (opG (eqD false) (callG F__law_draw (consG (vG 0) (consG (cG (.int 2)) nilG))) (cG (.int 0)))) (vG 2))))
def F__law_ll_group : Fn := (trimW (fnG 3 G__law_ll_group))
def G_need_lots : SG := (seqG (dropG (callG F_need_many (consG (vG 0) nilG))) (seqG (iteG (orB (notB (tB1 (caG isiC (consG (vG 1) (consG (cG (.ty "tuple")) nilG))))) (orB (tB1 (nilTG false (vG 1))) (notB (tB1 (cLG allC (lcG [4] (srcG (vG 1)) (nmF 4) yesB (callG F_is_group (consG (vG 0) (consG (vG 4) nilG))))))))) noG nextG) (seqG (iteG (notB (tB1 (cLG allC (lcG [2, 3] (zipG (consG (vG 1) (consG (slTG (vG 1) (partG (cG (.int 1))) noPartG) nilG))) (tpF 2 (consF (nmF 2) (consF (nmF 3) nilF))) yesB (opG ltD (vG 2) (vG 3)))))) noG nextG) (iteG (tB1 (cLG anyC (lc2G [2, 3] [3] (srcG (vG 1)) (nmF 2) yesB (srcG (vG 1)) (nmF 3) yesB (andG (opG (eqD true) (vG 2) (vG 3)) (callG F_is_within (consG (vG 2) (consG (vG 3) nilG))))))) noG nextG))))
def F_need_lots : Fn := (trimP (fnG 5 G_need_lots))
def GX_need_lots : SG := (seqG (dropG (callG X_need_many (consG (vG 0) nilG))) (seqG (iteG (orB (notB (tB1 (caG isiC (consG (vG 1) (consG (cG (.ty "tuple")) nilG))))) (orB (tB1 (nilTG false (vG 1))) (notB (tB1 (cLG allC (lcG [4] (srcG (vG 1)) (nmF 4) yesB (callG (noex F_is_group) (consG (vG 0) (consG (vG 4) nilG))))))))) (raiseG "BadLots") nextG) (seqG (iteG (notB (tB1 (cLG allC (lcG [2, 3] (zipG (consG (vG 1) (consG (slTG (vG 1) (partG (cG (.int 1))) noPartG) nilG))) (tpF 2 (consF (nmF 2) (consF (nmF 3) nilF))) yesB (opG ltD (vG 2) (vG 3)))))) (raiseG "BadLots") nextG) (iteG (tB1 (cLG anyC (lc2G [2, 3] [3] (srcG (vG 1)) (nmF 2) yesB (srcG (vG 1)) (nmF 3) yesB (andG (opG (eqD true) (vG 2) (vG 3)) (callG (noex F_is_within) (consG (vG 2) (consG (vG 3) nilG))))))) (raiseG "BadLots") nextG))))
def X_need_lots : Fn := (trimX (fnG 5 GX_need_lots))
def G_need_group : SG := (iteG (notB (tB1 (callG F_is_group (consG (vG 0) (consG (vG 1) nilG))))) noG nextG)
def F_need_group : Fn := (trimP (fnG 2 G_need_group))
def GX_need_group : SG := (iteG (notB (tB1 (callG (noex F_is_group) (consG (vG 0) (consG (vG 1) nilG))))) (raiseG "BadGroup") nextG)
def X_need_group : Fn := (trimX (fnG 2 GX_need_group))
def G__law_ll_lots : SG := (seqG (setG (tpF 2 (consF (nmF 1) (consF (nmF 2) nilF))) (tupG (consG (opG addD (cG (.int 1)) (callG F__law_draw (consG (vG 0) (consG (cG (.int 7)) nilG)))) (consG (allocG (lstG nilG)) nilG)))) (seqG (setG (nmF 3) (callG F__law_draw (consG (vG 0) (consG (cG (.int 4)) nilG)))) (seqG (forG (rng1G (consG (opG addD (cG (.int 1)) (callG F__law_draw (consG (vG 0) (consG (cG (.int 5)) nilG)))) nilG)) (nmF 4) (seqG (setG (nmF 5) (allocG (slLG (callG F__law_mixed (consG (vG 0) (consG (allocG (lstRgG (rg1G (vG 1)))) nilG))) noPartG (partG (callG F__law_draw (consG (vG 0) (consG (ifG (tB1 (opG gtD (vG 3) (cG (.int 0)))) (opG fdivD (opG addD (vG 1) (cG (.int 2))) (cG (.int 2))) (opG addD (vG 1) (cG (.int 1)))) nilG))))))) (dropG (appMG (vG 2) (cLG tupC (cVLG sortIC (vG 5))))))) (retG (tupG (consG (vG 1) (consG (cLG tupC (cLLG setTC (lcG [6] (srcG (vG 2)) (nmF 6) (tB1 (nilLG false (.new (lcG [7] (srcG (vG 2)) (nmF 7) (andB (tB1 (opG (eqD true) (vG 7) (vG 6))) (tB1 (callG F__law_ll_within (consG (vG 6) (consG (vG 7) nilG))))) (cG (.int 1)))))) (vG 6)))) nilG)))))))
def F__law_ll_lots : Fn := (trimW (fnG 8 G__law_ll_lots))
def G__law_k23_bad : SG := (seqG (setG (nmF 2) (allocG (lstG (consG (cG .non) (consG (tupG nilG) (consG (allocG (lstG (consG (tupG nilG) nilG))) (consG (tupG (consG (tupG (consG (cG (.int 0)) (consG (cG (.int 0)) nilG))) nilG)) (consG (tupG (consG (tupG (consG (vG 1) nilG)) nilG)) (consG (tupG (consG (tupG (consG (cG (.bl true)) nilG)) nilG)) (consG (tupG (consG (tupG nilG) (consG (tupG (consG (cG (.int 0)) nilG)) nilG))) (consG (tupG (consG (tupG (consG (cG (.int 0)) nilG)) (consG (tupG (consG (cG (.int 0)) nilG)) nilG))) (consG (tupG (consG (tupG (consG (unG negD (cG (.int 1))) nilG)) nilG)) (consG (tupG (consG (cG (.int 0)) nilG)) (consG (tupG (consG (cG .non) nilG)) (consG (cG (.str "lots")) nilG))))))))))))))) (retG (callG F__law_pick (consG (vG 0) (consG (allocG (catG (.val (vG 2)) (.new (ifG (tB1 (opG gtD (vG 1) (cG (.int 1)))) (lstG (consG (tupG (consG (tupG (consG (cG (.int 1)) nilG)) (consG (tupG (consG (cG (.int 0)) nilG)) nilG))) (consG (tupG (consG (tupG (consG (cG (.int 1)) (consG (cG (.int 0)) nilG))) nilG)) (consG (tupG (consG (tupG (consG (cG (.int 0)) nilG)) (consG (tupG (consG (cG (.int 0)) (consG (cG (.int 1)) nilG))) nilG))) nilG)))) (lstG nilG))))) nilG)))))
def F__law_k23_bad : Fn := (fnG 3 G__law_k23_bad)
def G_may_lie : SG := (seqG (dropG (callG F_need_lots (consG (vG 0) (consG (vG 1) nilG)))) (seqG (dropG (callG F_need_group (consG (vG 0) (consG (vG 2) nilG)))) (retG (callG F_may_all_lie (consG (vG 1) (consG (vG 2) nilG))))))
def F_may_lie : Fn := (trimP (fnG 3 G_may_lie))
def GX_may_lie : SG := (seqG (dropG (callG X_need_lots (consG (vG 0) (consG (vG 1) nilG)))) (seqG (dropG (callG X_need_group (consG (vG 0) (consG (vG 2) nilG)))) noG))
def X_may_lie : Fn := (trimX (fnG 3 GX_may_lie))
def G_is_enough : SG := (seqG (dropG (callG F_need_lots (consG (vG 0) (consG (vG 1) nilG)))) (seqG (dropG (callG F_need_group (consG (vG 0) (consG (vG 2) nilG)))) (retG (callG F_may_all_lie (consG (vG 1) (consG (callG F_others_of (consG (vG 0) (consG (vG 2) nilG))) nilG))))))
def F_is_enough : Fn := (trimP (fnG 3 G_is_enough))
def GX_is_enough : SG := (seqG (dropG (callG X_need_lots (consG (vG 0) (consG (vG 1) nilG)))) (seqG (dropG (callG X_need_group (consG (vG 0) (consG (vG 2) nilG)))) noG))
def X_is_enough : Fn := (trimX (fnG 3 GX_is_enough))
def G_three_lots : SG := (seqG (dropG (callG F_need_lots (consG (vG 0) (consG (vG 1) nilG)))) (retG (callG F_three_by (consG (vG 0) (consG (vG 1) nilG)))))
def F_three_lots : Fn := (trimP (fnG 2 G_three_lots))
def GX_three_lots : SG := (seqG (dropG (callG X_need_lots (consG (vG 0) (consG (vG 1) nilG)))) noG)
def X_three_lots : Fn := (trimX (fnG 2 GX_three_lots))
def G_is_binding : SG := (seqG (dropG (callG F_need_lots (consG (vG 0) (consG (vG 1) nilG)))) (seqG (dropG (callG F_need_group (consG (vG 0) (consG (vG 2) nilG)))) (seqG (setG (nmF 3) (callG F_others_of (consG (vG 0) (consG (vG 2) nilG)))) (retG (cLG anyC (lcG [4] (srcG (callG F_triples_of (consG (vG 1) nilG))) (nmF 4) yesB (callG F_is_within (consG (vG 3) (consG (callG F_all_of (consG (vG 4) nilG)) nilG)))))))))
def F_is_binding : Fn := (trimP (fnG 5 G_is_binding))
def GX_is_binding : SG := (seqG (dropG (callG X_need_lots (consG (vG 0) (consG (vG 1) nilG)))) (seqG (dropG (callG X_need_group (consG (vG 0) (consG (vG 2) nilG)))) noG))
def X_is_binding : Fn := (trimX (fnG 5 GX_is_binding))
def G_crossing_votes : SG := (seqG (dropG (callG F_need_lots (consG (vG 0) (consG (vG 1) nilG)))) (seqG (setG (nmF 2) (callG F_three_by (consG (vG 0) (consG (vG 1) nilG)))) (seqG (iteG (tB1 (opG isND (vG 2) (cG .non))) (retG (cG .non)) nextG) (retG (tupG (consG (callG F_others_of (consG (vG 0) (consG (opG ixD (vG 2) (cG (.int 0))) nilG))) (consG (callG F_others_of (consG (vG 0) (consG (opG ixD (vG 2) (cG (.int 1))) nilG))) (consG (opG ixD (vG 2) (cG (.int 2))) nilG))))))))
def F_crossing_votes : Fn := (trimP (fnG 3 G_crossing_votes))
def GX_crossing_votes : SG := (seqG (dropG (callG X_need_lots (consG (vG 0) (consG (vG 1) nilG)))) noG)
def X_crossing_votes : Fn := (trimX (fnG 3 GX_crossing_votes))
def G_is_crossing_votes : SG := (seqG (dropG (callG F_need_lots (consG (vG 0) (consG (vG 1) nilG)))) (seqG (iteG (orB (notB (tB1 (caG isiC (consG (vG 2) (consG (cG (.ty "tuple")) nilG))))) (orB (tB1 (opG (eqD true) (caG (c1 lenD) (consG (vG 2) nilG)) (cG (.int 3)))) (notB (tB1 (cLG allC (lcG [3] (srcG (vG 2)) (nmF 3) yesB (callG F_is_group (consG (vG 0) (consG (vG 3) nilG))))))))) (retG (cG (.bl false))) nextG) (seqG (iteG (orB (notB (tB1 (cLG allC (lcG [3] (srcG (slTG (vG 2) noPartG (partG (cG (.int 2))))) (nmF 3) yesB (callG F_may_all_lie (consG (vG 1) (consG (callG F_others_of (consG (vG 0) (consG (vG 3) nilG))) nilG))))))) (tB1 (opG (inD true) (opG ixD (vG 2) (cG (.int 2))) (vG 1)))) (retG (cG (.bl false))) nextG) (retG (callG F_is_within (consG (callG F_meeting (consG (opG ixD (vG 2) (cG (.int 0))) (consG (opG ixD (vG 2) (cG (.int 1))) nilG))) (consG (opG ixD (vG 2) (cG (.int 2))) nilG)))))))
def F_is_crossing_votes : Fn := (trimP (fnG 4 G_is_crossing_votes))
def GX_is_crossing_votes : SG := (seqG (dropG (callG X_need_lots (consG (vG 0) (consG (vG 1) nilG)))) noG)
def X_is_crossing_votes : Fn := (trimX (fnG 4 GX_is_crossing_votes))
def G_need_family : SG := (seqG (dropG (callG F_need_lots (consG (vG 0) (consG (vG 1) nilG)))) (iteG (orB (notB (tB1 (caG isiC (consG (vG 2) (consG (cG (.ty "tuple")) nilG))))) (notB (tB1 (cLG allC (lcG [3] (srcG (vG 2)) (nmF 3) yesB (callG F_is_group (consG (vG 0) (consG (vG 3) nilG)))))))) noG nextG))
def F_need_family : Fn := (trimP (fnG 4 G_need_family))
def GX_need_family : SG := (seqG (dropG (callG X_need_lots (consG (vG 0) (consG (vG 1) nilG)))) noG)
def X_need_family : Fn := (trimX (fnG 4 GX_need_family))
def G_enough_groups : SG := (seqG (dropG (callG F_need_lots (consG (vG 0) (consG (vG 1) nilG)))) (retG (cLG tupC (cLLG sortTC (lcG [2] (srcG (vG 1)) (nmF 2) yesB (callG F_others_of (consG (vG 0) (consG (vG 2) nilG))))))))
def F_enough_groups : Fn := (trimP (fnG 3 G_enough_groups))
def GX_enough_groups : SG := (seqG (dropG (callG X_need_lots (consG (vG 0) (consG (vG 1) nilG)))) noG)
def X_enough_groups : Fn := (trimX (fnG 3 GX_enough_groups))
def G_is_live : SG := (seqG (dropG (callG F_need_family (consG (vG 0) (consG (vG 1) (consG (vG 2) nilG))))) (retG (cLG allC (lcG [3] (srcG (vG 1)) (nmF 3) yesB (cLG anyC (lcG [4] (srcG (vG 2)) (nmF 4) yesB (nilTG false (callG F_meeting (consG (vG 4) (consG (vG 3) nilG))))))))))
def F_is_live : Fn := (trimP (fnG 5 G_is_live))
def GX_is_live : SG := (seqG (dropG (callG X_need_family (consG (vG 0) (consG (vG 1) (consG (vG 2) nilG))))) noG)
def X_is_live : Fn := (trimX (fnG 5 GX_is_live))
noncomputable def G_law (ad : Ad) : SG := (seqG (setG (nmF 1) (callG F__law_begun (consG (vG 0) nilG))) (seqG (forG (rng1G (consG (cG (.int 4)) nilG)) (nmF 2) (seqG (setG (tpF 2 (consF (nmF 3) (consF (nmF 4) nilF))) (callG F__law_ll_lots (consG (vG 1) nilG))) (seqG (iteG (tB1 (reprNeNG (kwG F_three_lots 2 [1, 0] (consG (vG 4) (consG (vG 3) nilG))) (callG F__law_ll_first (consG (vG 3) (consG (vG 4) nilG))))) (retG (cG (.bl false))) nextG) (seqG (iteG (tB1 (reprNeNG (kwG F_enough_groups 2 [1, 0] (consG (vG 4) (consG (vG 3) nilG))) (cLG tupC (cLLG sortTC (lcG [14] (srcG (vG 4)) (nmF 14) yesB (callG F__law_ll_rest (consG (vG 3) (consG (vG 14) nilG)))))))) (retG (cG (.bl false))) nextG) (seqG (forG (rng1G (consG (cG (.int 6)) nilG)) (nmF 5) (seqG (setG (nmF 6) (callG F__law_ll_group (consG (vG 1) (consG (vG 3) nilG)))) (seqG (parG 7 8 (consG (callG F__law_ll_may (consG (vG 4) (consG (callG F__law_ll_rest (consG (vG 3) (consG (vG 6) nilG))) nilG))) (consG (callG F__law_ll_binds (consG (vG 3) (consG (vG 4) (consG (vG 6) nilG)))) nilG))) (seqG (iteG (notB (tB1 (callG F__law_is_truth (consG (kwG F_may_lie 3 [2, 1, 0] (consG (vG 6) (consG (vG 4) (consG (vG 3) nilG)))) (consG (callG F__law_ll_may (consG (vG 4) (consG (vG 6) nilG))) nilG))))) (retG (cG (.bl false))) nextG) (seqG (iteG (orB (notB (tB1 (callG F__law_is_truth (consG (kwG F_is_enough 3 [2, 1, 0] (consG (vG 6) (consG (vG 4) (consG (vG 3) nilG)))) (consG (vG 7) nilG))))) (andB (tB1 (vG 7)) (notB (tB1 (vG 8))))) (retG (cG (.bl false))) nextG) (seqG (iteG (notB (tB1 (callG F__law_is_truth (consG (kwG F_is_binding 3 [2, 1, 0] (consG (vG 6) (consG (vG 4) (consG (vG 3) nilG)))) (consG (vG 8) nilG))))) (retG (cG (.bl false))) nextG) (seqG (setG (nmF 9) (cLG tupC (cQG setIC (opG addD (vG 6) (callG F__law_ll_group (consG (vG 1) (consG (vG 3) nilG))))))) (iteG (orB (andB (tB1 (vG 7)) (notB (tB1 (callG F_is_enough (consG (vG 3) (consG (vG 4) (consG (vG 9) nilG))))))) (andB (tB1 (vG 8)) (notB (tB1 (callG F_is_binding (consG (vG 3) (consG (vG 4) (consG (vG 9) nilG)))))))) (retG (cG (.bl false))) nextG)))))))) (seqG (setG (tpF 3 (consF (nmF 10) (consF (nmF 11) (consF (nmF 12) nilF)))) (tupG (consG (callG F__law_pick (consG (vG 1) (consG (allocG (lstG (consG (cG .non) (consG (cG (.int 0)) (consG (cG (.int 8)) (consG (cG (.bl true)) nilG)))))) nilG))) (consG (callG F__law_k23_bad (consG (vG 1) (consG (vG 3) nilG))) (consG (callG F__law_pick (consG (vG 1) (consG (allocG (lstG (consG (cG .non) (consG (allocG (lstG (consG (cG (.int 0)) nilG))) (consG (tupG (consG (vG 3) nilG)) (consG (tupG (consG (cG (.int 0)) (consG (cG (.int 0)) nilG))) (consG (tupG (consG (cG (.bl true)) nilG)) (consG (tupG (consG (unG negD (cG (.int 1))) nilG)) nilG)))))))) nilG))) nilG))))) (seqG (forG (srcL (lstG (consG (cG (.adr ad.may_lie)) (consG (cG (.adr ad.is_enough)) (consG (cG (.adr ad.is_binding)) nilG))))) (nmF 13) (seqG (iteG (orB (tB1 (opG (eqD true) (kindG wordOf (askG 13 [(ad.may_lie, X_may_lie), (ad.is_enough, X_is_enough), (ad.is_binding, X_is_binding)] (consG (vG 10) (consG (vG 11) (consG (vG 12) nilG))))) (cG (.str "many")))) (tB1 (opG (eqD true) (kindG wordOf (askG 13 [(ad.may_lie, X_may_lie), (ad.is_enough, X_is_enough), (ad.is_binding, X_is_binding)] (consG (vG 3) (consG (vG 11) (consG (vG 12) nilG))))) (cG (.str "lots"))))) (retG (cG (.bl false))) nextG) (iteG (tB1 (opG (eqD true) (kindG wordOf (askG 13 [(ad.may_lie, X_may_lie), (ad.is_enough, X_is_enough), (ad.is_binding, X_is_binding)] (consG (vG 3) (consG (vG 4) (consG (vG 12) nilG))))) (cG (.str "group")))) (retG (cG (.bl false))) nextG))) (loopG 13 fun lEA lEB => (forG (srcL (lstG (consG (cG (.adr ad.three_lots)) (consG (cG (.adr ad.enough_groups)) (consG (cG (.adr ad.crossing_votes)) (consG (cG (.adr lEA)) (consG (cG (.adr lEB)) nilG))))))) (nmF 13) (iteG (orB (tB1 (opG (eqD true) (kindG wordOf (askG 13 ([(ad.three_lots, X_three_lots), (ad.enough_groups, X_enough_groups), (ad.crossing_votes, X_crossing_votes)] ++ [(lEA, lamFn ["one", "two"] [] (callG X_is_crossing_votes (consG (vG 0) (consG (vG 1) (consG (cG .non) nilG))))), (lEB, lamFn ["one", "two", "none"] [.int 0] (callG X_is_live (consG (vG 0) (consG (vG 1) (consG (cG .non) nilG)))))]) (consG (vG 10) (consG (vG 11) nilG)))) (cG (.str "many")))) (tB1 (opG (eqD true) (kindG wordOf (askG 13 ([(ad.three_lots, X_three_lots), (ad.enough_groups, X_enough_groups), (ad.crossing_votes, X_crossing_votes)] ++ [(lEA, lamFn ["one", "two"] [] (callG X_is_crossing_votes (consG (vG 0) (consG (vG 1) (consG (cG .non) nilG))))), (lEB, lamFn ["one", "two", "none"] [.int 0] (callG X_is_live (consG (vG 0) (consG (vG 1) (consG (cG .non) nilG)))))]) (consG (vG 3) (consG (vG 11) nilG)))) (cG (.str "lots"))))) (retG (cG (.bl false))) nextG)))))))))) (retG (cG (.bl true)))))
noncomputable def F_law (ad : Ad) : Fn := (fnG 15 (G_law ad))
end K23

set_option maxHeartbeats 4000000
/-! Each def of the text does what its function says. -/
namespace K23
open PySem L2 Sim PyProof.Rows LamX
def top (i : Nat) : Stmt := PySem.Challenge.pw_pursespassed_k23_whole_lots_that_may_lie.main.body.getD i (.Pass ⟨0, 0, 0, 0⟩)
/-- what the walks ask of the names of the top -/
structure Txt (K : PySem.W.Frag) (mg : Str → Option Value) (ad : Ad) : Prop where
  m_is_number : mg "is_number" = some (.ref ad.is_number)
  k_is_number : PySem.W.keepIn K (.ref ad.is_number) = true
  m_is_within : mg "is_within" = some (.ref ad.is_within)
  k_is_within : PySem.W.keepIn K (.ref ad.is_within) = true
  m_others_of : mg "others_of" = some (.ref ad.others_of)
  k_others_of : PySem.W.keepIn K (.ref ad.others_of) = true
  m_all_of : mg "all_of" = some (.ref ad.all_of)
  k_all_of : PySem.W.keepIn K (.ref ad.all_of) = true
  m_triples_of : mg "triples_of" = some (.ref ad.triples_of)
  k_triples_of : PySem.W.keepIn K (.ref ad.triples_of) = true
  m_meeting : mg "meeting" = some (.ref ad.meeting)
  k_meeting : PySem.W.keepIn K (.ref ad.meeting) = true
  m__law_begun : mg "_law_begun" = some (.ref ad._law_begun)
  k__law_begun : PySem.W.keepIn K (.ref ad._law_begun) = true
  m__law_blended : mg "_law_blended" = some (.ref ad._law_blended)
  k__law_blended : PySem.W.keepIn K (.ref ad._law_blended) = true
  m__law_caught : mg "_law_caught" = some (.ref ad._law_caught)
  k__law_caught : PySem.W.keepIn K (.ref ad._law_caught) = true
  m__law_is_truth : mg "_law_is_truth" = some (.ref ad._law_is_truth)
  k__law_is_truth : PySem.W.keepIn K (.ref ad._law_is_truth) = true
  m__law_ll_within : mg "_law_ll_within" = some (.ref ad._law_ll_within)
  k__law_ll_within : PySem.W.keepIn K (.ref ad._law_ll_within) = true
  m__law_ll_threes : mg "_law_ll_threes" = some (.ref ad._law_ll_threes)
  k__law_ll_threes : PySem.W.keepIn K (.ref ad._law_ll_threes) = true
  m__law_ll_rest : mg "_law_ll_rest" = some (.ref ad._law_ll_rest)
  k__law_ll_rest : PySem.W.keepIn K (.ref ad._law_ll_rest) = true
  m__law_ll_kind : mg "_law_ll_kind" = some (.ref ad._law_ll_kind)
  k__law_ll_kind : PySem.W.keepIn K (.ref ad._law_ll_kind) = true
  m_is_count : mg "is_count" = some (.ref ad.is_count)
  k_is_count : PySem.W.keepIn K (.ref ad.is_count) = true
  m_may_all_lie : mg "may_all_lie" = some (.ref ad.may_all_lie)
  k_may_all_lie : PySem.W.keepIn K (.ref ad.may_all_lie) = true
  m_three_by : mg "three_by" = some (.ref ad.three_by)
  k_three_by : PySem.W.keepIn K (.ref ad.three_by) = true
  m__law_draw : mg "_law_draw" = some (.ref ad._law_draw)
  k__law_draw : PySem.W.keepIn K (.ref ad._law_draw) = true
  m__law_ll_may : mg "_law_ll_may" = some (.ref ad._law_ll_may)
  k__law_ll_may : PySem.W.keepIn K (.ref ad._law_ll_may) = true
  m__law_ll_first : mg "_law_ll_first" = some (.ref ad._law_ll_first)
  k__law_ll_first : PySem.W.keepIn K (.ref ad._law_ll_first) = true
  m__law_ll_binds : mg "_law_ll_binds" = some (.ref ad._law_ll_binds)
  k__law_ll_binds : PySem.W.keepIn K (.ref ad._law_ll_binds) = true
  m_is_group : mg "is_group" = some (.ref ad.is_group)
  k_is_group : PySem.W.keepIn K (.ref ad.is_group) = true
  m_need_many : mg "need_many" = some (.ref ad.need_many)
  k_need_many : PySem.W.keepIn K (.ref ad.need_many) = true
  m__law_pick : mg "_law_pick" = some (.ref ad._law_pick)
  k__law_pick : PySem.W.keepIn K (.ref ad._law_pick) = true
  m__law_mixed : mg "_law_mixed" = some (.ref ad._law_mixed)
  k__law_mixed : PySem.W.keepIn K (.ref ad._law_mixed) = true
  m__law_ll_group : mg "_law_ll_group" = some (.ref ad._law_ll_group)
  k__law_ll_group : PySem.W.keepIn K (.ref ad._law_ll_group) = true
  m_need_lots : mg "need_lots" = some (.ref ad.need_lots)
  k_need_lots : PySem.W.keepIn K (.ref ad.need_lots) = true
  m_need_group : mg "need_group" = some (.ref ad.need_group)
  k_need_group : PySem.W.keepIn K (.ref ad.need_group) = true
  m__law_ll_lots : mg "_law_ll_lots" = some (.ref ad._law_ll_lots)
  k__law_ll_lots : PySem.W.keepIn K (.ref ad._law_ll_lots) = true
  m__law_k23_bad : mg "_law_k23_bad" = some (.ref ad._law_k23_bad)
  k__law_k23_bad : PySem.W.keepIn K (.ref ad._law_k23_bad) = true
  m_may_lie : mg "may_lie" = some (.ref ad.may_lie)
  k_may_lie : PySem.W.keepIn K (.ref ad.may_lie) = true
  m_is_enough : mg "is_enough" = some (.ref ad.is_enough)
  k_is_enough : PySem.W.keepIn K (.ref ad.is_enough) = true
  m_three_lots : mg "three_lots" = some (.ref ad.three_lots)
  k_three_lots : PySem.W.keepIn K (.ref ad.three_lots) = true
  m_is_binding : mg "is_binding" = some (.ref ad.is_binding)
  k_is_binding : PySem.W.keepIn K (.ref ad.is_binding) = true
  m_crossing_votes : mg "crossing_votes" = some (.ref ad.crossing_votes)
  k_crossing_votes : PySem.W.keepIn K (.ref ad.crossing_votes) = true
  m_is_crossing_votes : mg "is_crossing_votes" = some (.ref ad.is_crossing_votes)
  k_is_crossing_votes : PySem.W.keepIn K (.ref ad.is_crossing_votes) = true
  m_need_family : mg "need_family" = some (.ref ad.need_family)
  k_need_family : PySem.W.keepIn K (.ref ad.need_family) = true
  m_enough_groups : mg "enough_groups" = some (.ref ad.enough_groups)
  k_enough_groups : PySem.W.keepIn K (.ref ad.enough_groups) = true
  m_is_live : mg "is_live" = some (.ref ad.is_live)
  k_is_live : PySem.W.keepIn K (.ref ad.is_live) = true
  b_abs : mg "abs" = none
  b_all : mg "all" = none
  b_any : mg "any" = none
  b_bool : mg "bool" = none
  b_enumerate : mg "enumerate" = none
  b_int : mg "int" = none
  b_isinstance : mg "isinstance" = none
  b_len : mg "len" = none
  b_list : mg "list" = none
  b_range : mg "range" = none
  b_repr : mg "repr" = none
  b_set : mg "set" = none
  b_sorted : mg "sorted" = none
  b_tuple : mg "tuple" = none
  b_zip : mg "zip" = none
  c_MOST_COUNTED : ∃ t, mg "MOST_COUNTED" = some (.int 7 t)
  c_MOST_NUMBER : ∃ t, mg "MOST_NUMBER" = some (.int 1000000000000000000 t)
  m_PurseError : mg "PurseError" = some (.ref ad.PurseError)
  m_BadMany : mg "BadMany" = some (.ref ad.BadMany)
  m_BadLots : mg "BadLots" = some (.ref ad.BadLots)
  m_BadGroup : mg "BadGroup" = some (.ref ad.BadGroup)
  m_BadFamily : mg "BadFamily" = some (.ref ad.BadFamily)
  m_BadWeights : mg "BadWeights" = some (.ref ad.BadWeights)
  v_BadMany : ExcV K ad.BadMany ad.PurseError
  v_BadLots : ExcV K ad.BadLots ad.PurseError
  v_BadGroup : ExcV K ad.BadGroup ad.PurseError
  i_BadMany_BadMany : PySem.W.kitOne K (.ref ad.BadMany) (.ref ad.BadMany) = some true
  i_BadMany_BadLots : PySem.W.kitOne K (.ref ad.BadMany) (.ref ad.BadLots) = some false
  i_BadMany_BadGroup : PySem.W.kitOne K (.ref ad.BadMany) (.ref ad.BadGroup) = some false
  i_BadMany_BadFamily : PySem.W.kitOne K (.ref ad.BadMany) (.ref ad.BadFamily) = some false
  i_BadMany_BadWeights : PySem.W.kitOne K (.ref ad.BadMany) (.ref ad.BadWeights) = some false
  i_BadLots_BadMany : PySem.W.kitOne K (.ref ad.BadLots) (.ref ad.BadMany) = some false
  i_BadLots_BadLots : PySem.W.kitOne K (.ref ad.BadLots) (.ref ad.BadLots) = some true
  i_BadLots_BadGroup : PySem.W.kitOne K (.ref ad.BadLots) (.ref ad.BadGroup) = some false
  i_BadLots_BadFamily : PySem.W.kitOne K (.ref ad.BadLots) (.ref ad.BadFamily) = some false
  i_BadLots_BadWeights : PySem.W.kitOne K (.ref ad.BadLots) (.ref ad.BadWeights) = some false
  i_BadGroup_BadMany : PySem.W.kitOne K (.ref ad.BadGroup) (.ref ad.BadMany) = some false
  i_BadGroup_BadLots : PySem.W.kitOne K (.ref ad.BadGroup) (.ref ad.BadLots) = some false
  i_BadGroup_BadGroup : PySem.W.kitOne K (.ref ad.BadGroup) (.ref ad.BadGroup) = some true
  i_BadGroup_BadFamily : PySem.W.kitOne K (.ref ad.BadGroup) (.ref ad.BadFamily) = some false
  i_BadGroup_BadWeights : PySem.W.kitOne K (.ref ad.BadGroup) (.ref ad.BadWeights) = some false
/-- the classes that may be raised -/
structure GOk (Γ : Clss) (ad : Ad) : Prop where
  g_BadMany : Γ "BadMany" = some ad.BadMany
  g_BadLots : Γ "BadLots" = some ad.BadLots
  g_BadGroup : Γ "BadGroup" = some ad.BadGroup
  only : ∀ c C, Γ c = some C → (c, C) ∈ ([("BadMany", ad.BadMany), ("BadLots", ad.BadLots), ("BadGroup", ad.BadGroup)] : List (Str × Addr))
theorem kit_facts {K : PySem.W.Frag} {mg : Str → Option Value} {ad : Ad} {Γ : Clss} (T : Txt K mg ad) (gO : GOk Γ ad) (c : Str) (C : Addr) (h : Γ c = some C) : (ExcC K C ∧ PySem.W.exmOne K (.ref C) (.ref ad.PurseError) = some true) ∧ PySem.W.kitOne K (.ref C) (.ref ad.BadMany) = some (decide (c = "BadMany")) ∧ PySem.W.kitOne K (.ref C) (.ref ad.BadLots) = some (decide (c = "BadLots")) ∧ PySem.W.kitOne K (.ref C) (.ref ad.BadGroup) = some (decide (c = "BadGroup")) ∧ PySem.W.kitOne K (.ref C) (.ref ad.BadFamily) = some (decide (c = "BadFamily")) ∧ PySem.W.kitOne K (.ref C) (.ref ad.BadWeights) = some (decide (c = "BadWeights")) := by
  have z := gO.only c C h
  simp only [List.mem_cons, List.not_mem_nil, or_false, Prod.mk.injEq] at z
  rcases z with ⟨rfl, rfl⟩ | ⟨rfl, rfl⟩ | ⟨rfl, rfl⟩
  · exact ⟨⟨T.v_BadMany.c, T.v_BadMany.x⟩, T.i_BadMany_BadMany.trans (congrArg some (by decide +kernel)), T.i_BadMany_BadLots.trans (congrArg some (by decide +kernel)), T.i_BadMany_BadGroup.trans (congrArg some (by decide +kernel)), T.i_BadMany_BadFamily.trans (congrArg some (by decide +kernel)), T.i_BadMany_BadWeights.trans (congrArg some (by decide +kernel))⟩
  · exact ⟨⟨T.v_BadLots.c, T.v_BadLots.x⟩, T.i_BadLots_BadMany.trans (congrArg some (by decide +kernel)), T.i_BadLots_BadLots.trans (congrArg some (by decide +kernel)), T.i_BadLots_BadGroup.trans (congrArg some (by decide +kernel)), T.i_BadLots_BadFamily.trans (congrArg some (by decide +kernel)), T.i_BadLots_BadWeights.trans (congrArg some (by decide +kernel))⟩
  · exact ⟨⟨T.v_BadGroup.c, T.v_BadGroup.x⟩, T.i_BadGroup_BadMany.trans (congrArg some (by decide +kernel)), T.i_BadGroup_BadLots.trans (congrArg some (by decide +kernel)), T.i_BadGroup_BadGroup.trans (congrArg some (by decide +kernel)), T.i_BadGroup_BadFamily.trans (congrArg some (by decide +kernel)), T.i_BadGroup_BadWeights.trans (congrArg some (by decide +kernel))⟩
section
variable {P : Program} {w : World} {K : PySem.W.Frag} {Γ : Clss} {mg : Str → Option Value} {base : Heap} {ad : Ad}
abbrev st_is_number : Stmt := top 9
theorem sc_is_number : FnScope ["value", "low"] ["value", "low"] (defScope st_is_number) := ⟨rfl, rfl, rfl, by decide +kernel, rfl, by decide +kernel, by decide +kernel⟩
theorem ok_is_number {f : Addr} {fd : FuncData} (Fu : Fun K "is_number" "is_number" st_is_number f fd) (T : Txt K mg ad) : FnOk P w K mg base CX0 1 f fd ["value", "low"] (spN K Γ 2 F_is_number) := by
  refine def_fn (G := G_is_number) Fu sc_is_number (fun _ _ _ _ _ S h => trimP_ok S h) (fun cdv A outer s H E hr => ?_)
  exact ⟨_, (pss_one (ps_ret (pe_and (pe_callB call_isi (by rfl) T.b_isinstance (by decide +kernel) (pa_cons (pv 0) (pa_cons (pe_bltn (v := .ty "int") (by rfl) T.b_int (by decide +kernel) rfl) pa_nil))) (pe_and (pe_not (pe_callB call_isi (by rfl) T.b_isinstance (by decide +kernel) (pa_cons (pv 0) (pa_cons (pe_bltn (v := .ty "bool") (by rfl) T.b_bool (by decide +kernel) rfl) pa_nil)))) (pe_one (pe_chain op_le (op_ltA hr.units0) (pv 1) (pv 0) (pe_glob (v := .int 1000000000000000000) rfl T.c_MOST_NUMBER.choose_spec ⟨_, rfl⟩))))))),
    (ss_ret (sim_andV (sim_cb c_isi (sim_cons sim_var (sim_cons sim_ty sim_nil))) (sim_andV (sim_notV (sim_cb c_isi (sim_cons sim_var (sim_cons sim_ty sim_nil)))) (sim_chain s_le s_lt sim_var sim_var sim_int))))⟩
abbrev st_is_within : Stmt := top 14
theorem sc_is_within : FnScope ["one", "other", "member"] ["one", "other"] (defScope st_is_within) := ⟨rfl, rfl, rfl, by decide +kernel, rfl, by decide +kernel, by decide +kernel⟩
theorem ok_is_within {f : Addr} {fd : FuncData} (Fu : Fun K "is_within" "is_within" st_is_within f fd) (T : Txt K mg ad) : FnOk P w K mg base CX0 1 f fd ["one", "other"] (spN K Γ 2 F_is_within) := by
  refine def_fn (G := G_is_within) Fu sc_is_within (fun _ _ _ _ _ S h => trimP_ok S h) (fun cdv A outer s H E hr => ?_)
  exact ⟨_, (pss_one (ps_ret (pe_callB (cr_all rfl) (by rfl) T.b_all (by decide +kernel) (pa_cons (pe_lc (own := [("member", 2)]) rfl sc_is_within.nd (pi_seq (pv 0)) (blkOk_by (N := ["one", "other", "member"]) (sc := defScope st_is_within) (by decide +kernel)) (fun _ _ _ _ _ => (pg_name (i := 2) sc_is_within.nd rfl (Or.inl rfl))) (fun _ _ _ _ _ => pts_nil) (fun _ _ _ _ _ => (pe_cmpR (op_inA (hu65 hr)) (pv 2) (pv 1) (by rfl)))) pa_nil)))),
    (ss_ret (sim_cL l_all (sim_lc (sim_seq sim_var) g_name sim_tYes (sim_op s_in sim_var sim_var))))⟩
abbrev st_others_of : Stmt := top 18
theorem sc_others_of : FnScope ["many", "group", "member"] ["many", "group"] (defScope st_others_of) := ⟨rfl, rfl, rfl, by decide +kernel, rfl, by decide +kernel, by decide +kernel⟩
theorem ok_others_of {f : Addr} {fd : FuncData} (Fu : Fun K "others_of" "others_of" st_others_of f fd) (T : Txt K mg ad) : FnOk P w K mg base CX0 1 f fd ["many", "group"] (spN K Γ 2 F_others_of) := by
  refine def_fn (G := G_others_of) Fu sc_others_of (fun _ _ _ _ _ S h => trimP_ok S h) (fun cdv A outer s H E hr => ?_)
  exact ⟨_, (pss_one (ps_ret (pe_callTy call_tuple_of (by rfl) T.b_tuple (by decide +kernel) (pa_cons (pe_lc (own := [("member", 2)]) rfl sc_others_of.nd (pi_range1 (by rfl) T.b_range (pa_cons (pv 0) pa_nil)) (blkOk_by (N := ["many", "group", "member"]) (sc := defScope st_others_of) (by decide +kernel)) (fun _ _ _ _ _ => (pg_name (i := 2) sc_others_of.nd rfl (Or.inl rfl))) (fun _ _ _ _ _ => (pts_one (pt_cmpR (op_notInA (hu65 hr)) (pv 2) (pv 1) (by rfl)))) (fun _ _ _ _ _ => (pv 2))) pa_nil)))),
    (ss_ret (sim_cL l_tup (sim_lc (sim_rng1 (sim_cons sim_var sim_nil)) g_name (sim_tTest (sim_op s_notIn sim_var sim_var)) sim_var)))⟩
abbrev st_all_of : Stmt := top 19
theorem sc_all_of : FnScope ["groups", "group", "member"] ["groups"] (defScope st_all_of) := ⟨rfl, rfl, rfl, by decide +kernel, rfl, by decide +kernel, by decide +kernel⟩
theorem ok_all_of {f : Addr} {fd : FuncData} (Fu : Fun K "all_of" "all_of" st_all_of f fd) (T : Txt K mg ad) : FnOk P w K mg base CX0 1 f fd ["groups"] (spN K Γ 1 F_all_of) := by
  refine def_fn (G := G_all_of) Fu sc_all_of (fun _ _ _ _ _ S h => trimP_ok S h) (fun cdv A outer s H E hr => ?_)
  exact ⟨_, (pss_one (ps_ret (pe_callTy call_tuple_of (by rfl) T.b_tuple (by decide +kernel) (pa_cons (pe_callB (cr_sortedSet (by rfl)) (by rfl) T.b_sorted (by decide +kernel) (pa_cons (pe_callTy (cr_setI (by rfl)) (by rfl) T.b_set (by decide +kernel) (pa_cons (pe_lc2 (own := [("group", 1), ("member", 2)]) (vs1 := [2]) rfl sc_all_of.nd (pi_seq (pv 0)) (blkOk_by (N := ["groups", "group", "member"]) (sc := defScope st_all_of) (by decide +kernel)) (by decide) (fun _ _ _ _ _ => (pg_name (i := 1) sc_all_of.nd rfl (Or.inl rfl))) (fun _ _ _ _ _ => pts_nil) (fun _ _ _ _ _ => (pi_seq (pv 1))) (fun _ _ _ _ _ => (pg_name (i := 2) sc_all_of.nd rfl (Or.inl rfl))) (fun _ _ _ _ _ => pts_nil) (fun _ _ _ _ _ => (pv 2))) pa_nil)) pa_nil)) pa_nil)))),
    (ss_ret (sim_cL l_tup (sim_ssIL (sim_lc2 (sim_seq sim_var) g_name sim_tYes (sim_seq sim_var) g_name sim_tYes sim_var))))⟩
abbrev st_triples_of : Stmt := top 23
theorem sc_triples_of : FnScope ["lots", "found", "first", "one", "second", "other", "third"] ["lots"] (defScope st_triples_of) := ⟨rfl, rfl, rfl, by decide +kernel, rfl, by decide +kernel, by decide +kernel⟩
theorem ok_triples_of {f : Addr} {fd : FuncData} (Fu : Fun K "triples_of" "triples_of" st_triples_of f fd) (T : Txt K mg ad) : FnOk P w K mg base CX0 1 f fd ["lots"] (spN K Γ 1 F_triples_of) := by
  refine def_fn (G := G_triples_of) Fu sc_triples_of (fun _ _ _ _ _ _ h => h) (fun cdv A outer s H E hr => ?_)
  exact ⟨_, (pss_cons (ps_set (i := 1) sc_triples_of.nd rfl (Or.inl rfl) (pe_lst pa_nil)) (pss_cons (ps_for PassesOwn.never rfl (pi_enumA (by rfl) T.b_enumerate (pa_cons (pv 0) pa_nil)) (pg_tup rfl (pgs_cons (pg_name (i := 2) sc_triples_of.nd rfl (Or.inl rfl)) (pgs_cons (pg_name (i := 3) sc_triples_of.nd rfl (Or.inr rfl)) pgs_nil))) (pss_one (ps_for PassesOwn.never rfl (pi_enumA (by rfl) T.b_enumerate (pa_cons (pe_slice sl_tupA (pv 0) (po_some (pv 2)) po_none) pa_nil)) (pg_tup rfl (pgs_cons (pg_name (i := 4) sc_triples_of.nd rfl (Or.inl rfl)) (pgs_cons (pg_name (i := 5) sc_triples_of.nd rfl (Or.inr rfl)) pgs_nil))) (pss_one (ps_expr (pe_bm PySem.F.plainAttrs_list PySem.F.slot_list_extend PySem.F.type_list_extend mt_extend (pv 1) (pa_cons (pe_lc (own := [("third", 6)]) rfl sc_triples_of.nd (pi_seq (pe_slice sl_tupA (pv 0) (po_some (pe_op op_addA (pv 2) (pv 4))) po_none)) (blkOk_by (N := ["lots", "found", "first", "one", "second", "other", "third"]) (sc := defScope st_triples_of) (by decide +kernel)) (fun _ _ _ _ _ => (pg_name (i := 6) sc_triples_of.nd rfl (Or.inl rfl))) (fun _ _ _ _ _ => pts_nil) (fun _ _ _ _ _ => (pe_tup (pa_cons (pv 3) (pa_cons (pv 5) (pa_cons (pv 6) pa_nil)))))) pa_nil))))))) (pss_one (ps_ret (pv 1))))),
    (ss_seq (ss_asg (sim_alloc (sim_lst sim_nil)) g_name) (ss_seq (ss_for (sim_enum (sim_cons sim_var sim_nil)) (g_tup (g_cons g_name (g_cons g_name g_nil))) (ss_for (sim_enum (sim_cons (sim_slT sim_var (so_some sim_var) so_none) sim_nil)) (g_tup (g_cons g_name (g_cons g_name g_nil))) (ss_drop (sim_extend sim_var (sim_lc (sim_seq (sim_slT sim_var (so_some (sim_op s_add sim_var sim_var)) so_none)) g_name sim_tYes (sim_tup (sim_cons sim_var (sim_cons sim_var (sim_cons sim_var sim_nil))))))))) (ss_ret sim_var)))⟩
abbrev st_meeting : Stmt := top 28
theorem sc_meeting : FnScope ["one", "other", "member"] ["one", "other"] (defScope st_meeting) := ⟨rfl, rfl, rfl, by decide +kernel, rfl, by decide +kernel, by decide +kernel⟩
theorem ok_meeting {f : Addr} {fd : FuncData} (Fu : Fun K "meeting" "meeting" st_meeting f fd) (T : Txt K mg ad) : FnOk P w K mg base CX0 1 f fd ["one", "other"] (spN K Γ 2 F_meeting) := by
  refine def_fn (G := G_meeting) Fu sc_meeting (fun _ _ _ _ _ S h => trimP_ok S h) (fun cdv A outer s H E hr => ?_)
  exact ⟨_, (pss_one (ps_ret (pe_callTy call_tuple_of (by rfl) T.b_tuple (by decide +kernel) (pa_cons (pe_lc (own := [("member", 2)]) rfl sc_meeting.nd (pi_seq (pv 0)) (blkOk_by (N := ["one", "other", "member"]) (sc := defScope st_meeting) (by decide +kernel)) (fun _ _ _ _ _ => (pg_name (i := 2) sc_meeting.nd rfl (Or.inl rfl))) (fun _ _ _ _ _ => (pts_one (pt_cmpR (op_inA (hu65 hr)) (pv 2) (pv 1) (by rfl)))) (fun _ _ _ _ _ => (pv 2))) pa_nil)))),
    (ss_ret (sim_cL l_tup (sim_lc (sim_seq sim_var) g_name (sim_tTest (sim_op s_in sim_var sim_var)) sim_var)))⟩
abbrev st__law_begun : Stmt := top 34
theorem sc__law_begun : FnScope ["script", "great", "cell"] ["script"] (defScope st__law_begun) := ⟨rfl, rfl, rfl, by decide +kernel, rfl, by decide +kernel, by decide +kernel⟩
theorem ok__law_begun {f : Addr} {fd : FuncData} (Fu : Fun K "_law_begun" "_law_begun" st__law_begun f fd) (T : Txt K mg ad) : FnOk P w K mg base CX0 1 f fd ["script"] (spN K Γ 1 F__law_begun) := by
  refine def_fn (G := G__law_begun) Fu sc__law_begun (fun _ _ _ _ _ _ h => h) (fun cdv A outer s H E hr => ?_)
  exact ⟨_, (pss_cons (ps_setLc (i := 1) (own := [("cell", 2)]) rfl sc__law_begun.nd rfl rfl (sw_true rfl rfl rfl (by decide +kernel)) (pi_seq (pv 0)) (blkOk_by (N := ["script", "great", "cell"]) (sc := defScope st__law_begun) (by decide +kernel)) (fun _ _ _ _ _ => (pg_name (i := 2) sc__law_begun.nd rfl (Or.inl rfl))) (fun _ _ _ _ _ => (pts_one (pt_cmpR op_ge (pe_callB call_abs (by rfl) T.b_abs (by decide +kernel) (pa_cons (pv 2) pa_nil)) (pe_op op_pow pe_int pe_int) (nomark _)))) (fun _ _ _ _ _ => (pe_op op_sub (pe_callB call_abs (by rfl) T.b_abs (by decide +kernel) (pa_cons (pv 2) pa_nil)) (pe_op op_pow pe_int pe_int)))) (pss_one (ps_ret (pe_disp (pps_cons pe_str (pv 1) (pps_cons pe_str (pe_lc (own := [("cell", 2)]) rfl sc__law_begun.nd (pi_seq (pv 0)) (blkOk_by (N := ["script", "great", "cell"]) (sc := defScope st__law_begun) (by decide +kernel)) (fun _ _ _ _ _ => (pg_name (i := 2) sc__law_begun.nd rfl (Or.inl rfl))) (fun _ _ _ _ _ => pts_nil) (fun _ _ _ _ _ => (pe_callB call_abs (by rfl) T.b_abs (by decide +kernel) (pa_cons (pv 2) pa_nil)))) (pps_cons pe_str pe_int (pps_cons pe_str pe_int pps_nil)))) (by rfl) (by rfl) (fun z => by cases z) (by decide))))),
    (ss_seq (ss_asg (sim_alloc (sim_lc (sim_seq sim_var) g_name (sim_tTest (sim_op s_ge (sim_cb c_abs (sim_cons sim_var sim_nil)) (sim_op s_pow sim_int sim_int))) (sim_op s_sub (sim_cb c_abs (sim_cons sim_var sim_nil)) (sim_op s_pow sim_int sim_int)))) g_name) (ss_ret (sim_disp (sim_ppcons sim_str sim_var (sim_ppcons sim_str (sim_alloc (sim_lc (sim_seq sim_var) g_name sim_tYes (sim_cb c_abs (sim_cons sim_var sim_nil)))) (sim_ppcons sim_str sim_int (sim_ppcons sim_str sim_int sim_ppnil)))))))⟩
abbrev st__law_blended : Stmt := top 35
theorem sc__law_blended : FnScope ["state", "turn", "found", "prime", "blend", "cell"] ["state"] (defScope st__law_blended) := ⟨rfl, rfl, rfl, by decide +kernel, rfl, by decide +kernel, by decide +kernel⟩
theorem ok__law_blended {f : Addr} {fd : FuncData} (Fu : Fun K "_law_blended" "_law_blended" st__law_blended f fd) (T : Txt K mg ad) : FnOk P w K mg base CX0 1 f fd ["state"] (spN K Γ 1 F__law_blended) := by
  refine def_fn (G := G__law_blended) Fu sc__law_blended (fun _ _ _ _ _ S h => trimW_ok S h) (fun cdv A outer s H E hr => ?_)
  exact ⟨_, (pss_cons (ps_par (by rfl) sc__law_blended.nd rfl rfl (by decide) rfl rfl (pa_cons (pe_op op_addA (pe_dget (hu_of hr) (pv 0) pe_str (fun _ _ => rfl)) pe_int) (pa_cons pe_int pa_nil)) (by rfl)) (pss_cons (ps_dput (hu_of hr) (pv 0) pe_str (pv 1) rfl) (pss_cons (ps_for PassesOwn.never rfl (pi_seq (pe_lst (pa_cons pe_int (pa_cons pe_int (pa_cons pe_int pa_nil))))) (pg_name (i := 3) sc__law_blended.nd rfl (Or.inl rfl)) (pss_cons (ps_set (i := 4) sc__law_blended.nd rfl (Or.inl rfl) (pe_op op_addA (pe_op op_mul pe_int (pv 1)) (pe_op op_fdiv (pv 3) pe_int))) (pss_cons (ps_for PassesOwn.never rfl (pi_seq (pe_dget (hu_of hr) (pv 0) pe_str (fun _ _ => rfl))) (pg_name (i := 5) sc__law_blended.nd rfl (Or.inl rfl)) (pss_one (ps_set (i := 4) sc__law_blended.nd rfl (Or.inl rfl) (pe_op op_mod (pe_callTy call_int1 (by rfl) T.b_int (by decide +kernel) (pa_cons (pe_op op_addA (pe_op op_addA (pe_op op_mul (pv 4) pe_int) (pv 5)) (pv 1)) pa_nil)) (pv 3))))) (pss_one (ps_set (i := 2) sc__law_blended.nd rfl (Or.inl rfl) (pe_op op_addA (pe_op op_mul (pv 2) pe_int) (pe_op op_mod (pe_callTy call_int1 (by rfl) T.b_int (by decide +kernel) (pa_cons (pe_op op_pow (pv 4) pe_int) pa_nil)) (pv 3)))))))) (pss_one (ps_ret (pv 2)))))),
    (ss_seq (ss_par (sim_cons (sim_op s_add (sim_dget sim_var sim_str) sim_int) (sim_cons sim_int sim_nil))) (ss_seq (ss_dput sim_var sim_str sim_var) (ss_seq (ss_for (sim_seqL (sim_lst (sim_cons sim_int (sim_cons sim_int (sim_cons sim_int sim_nil))))) g_name (ss_seq (ss_asg (sim_op s_add (sim_op s_mul sim_int sim_var) (sim_op s_fdiv sim_var sim_int)) g_name) (ss_seq (ss_for (sim_seq (sim_dget sim_var sim_str)) g_name (ss_asg (sim_op s_mod (sim_cb c_int (sim_cons (sim_op s_add (sim_op s_add (sim_op s_mul sim_var sim_int) sim_var) sim_var) sim_nil)) sim_var) g_name)) (ss_asg (sim_op s_add (sim_op s_mul sim_var sim_int) (sim_op s_mod (sim_cb c_int (sim_cons (sim_op s_pow sim_var sim_int) sim_nil)) sim_var)) g_name)))) (ss_ret sim_var))))⟩
abbrev st__law_caught : Stmt := top 39
theorem sc__law_caught : FnScope ["work", "caught", "error"] ["work"] (defScope st__law_caught) := ⟨rfl, rfl, rfl, by decide +kernel, rfl, by decide +kernel, by decide +kernel⟩
abbrev st__law_is_truth : Stmt := top 40
theorem sc__law_is_truth : FnScope ["found", "due"] ["found", "due"] (defScope st__law_is_truth) := ⟨rfl, rfl, rfl, by decide +kernel, rfl, by decide +kernel, by decide +kernel⟩
theorem ok__law_is_truth {f : Addr} {fd : FuncData} (Fu : Fun K "_law_is_truth" "_law_is_truth" st__law_is_truth f fd) (T : Txt K mg ad) : FnOk P w K mg base CX0 1 f fd ["found", "due"] (spN K Γ 2 F__law_is_truth) := by
  refine def_fn (G := G__law_is_truth) Fu sc__law_is_truth (fun _ _ _ _ _ S h => trimP_ok S h) (fun cdv A outer s H E hr => ?_)
  exact ⟨_, (pss_one (ps_ret (pe_ifExp (pt_val (pv 1)) (pe_cmpR op_is_bl (pv 0) pe_bl (nomark _)) (pe_cmpR op_is_bl (pv 0) pe_bl (nomark _))))),
    (ss_ret (sim_if (sim_tB sim_var) (sim_op s_isbl sim_var sim_bl) (sim_op s_isbl sim_var sim_bl)))⟩
abbrev st__law_ll_within : Stmt := top 41
theorem sc__law_ll_within : FnScope ["one", "other", "member"] ["one", "other"] (defScope st__law_ll_within) := ⟨rfl, rfl, rfl, by decide +kernel, rfl, by decide +kernel, by decide +kernel⟩
theorem ok__law_ll_within {f : Addr} {fd : FuncData} (Fu : Fun K "_law_ll_within" "_law_ll_within" st__law_ll_within f fd) (T : Txt K mg ad) : FnOk P w K mg base CX0 1 f fd ["one", "other"] (spN K Γ 2 F__law_ll_within) := by
  refine def_fn (G := G__law_ll_within) Fu sc__law_ll_within (fun _ _ _ _ _ S h => trimP_ok S h) (fun cdv A outer s H E hr => ?_)
  exact ⟨_, (pss_one (ps_ret (pe_cmpR (op_eqNil hr.units0) (pe_lc (own := [("member", 2)]) rfl sc__law_ll_within.nd (pi_seq (pv 0)) (blkOk_by (N := ["one", "other", "member"]) (sc := defScope st__law_ll_within) (by decide +kernel)) (fun _ _ _ _ _ => (pg_name (i := 2) sc__law_ll_within.nd rfl (Or.inl rfl))) (fun _ _ _ _ _ => (pts_one (pt_cmpR (op_notInA (hu65 hr)) (pv 2) (pv 1) (by rfl)))) (fun _ _ _ _ _ => pe_int)) (pe_lst pa_nil) (nomark _)))),
    (ss_ret (sim_nilL (sim_lc (sim_seq sim_var) g_name (sim_tTest (sim_op s_notIn sim_var sim_var)) sim_int)))⟩
abbrev st__law_ll_threes : Stmt := top 44
theorem sc__law_ll_threes : FnScope ["lots", "found", "first", "second", "third"] ["lots"] (defScope st__law_ll_threes) := ⟨rfl, rfl, rfl, by decide +kernel, rfl, by decide +kernel, by decide +kernel⟩
theorem ok__law_ll_threes {f : Addr} {fd : FuncData} (Fu : Fun K "_law_ll_threes" "_law_ll_threes" st__law_ll_threes f fd) (T : Txt K mg ad) : FnOk P w K mg base CX0 1 f fd ["lots"] (spN K Γ 1 F__law_ll_threes) := by
  refine def_fn (G := G__law_ll_threes) Fu sc__law_ll_threes (fun _ _ _ _ _ _ h => h) (fun cdv A outer s H E hr => ?_)
  exact ⟨_, (pss_cons (ps_set (i := 1) sc__law_ll_threes.nd rfl (Or.inl rfl) (pe_lst pa_nil)) (pss_cons (ps_for PassesOwn.never rfl (pi_range1 (by rfl) T.b_range (pa_cons (pe_callB call_len_seq (by rfl) T.b_len (by decide +kernel) (pa_cons (pv 0) pa_nil)) pa_nil)) (pg_name (i := 2) sc__law_ll_threes.nd rfl (Or.inr rfl)) (pss_one (ps_for PassesOwn.never rfl (pi_range2 (by rfl) T.b_range (pa_cons (pv 2) (pa_cons (pe_callB call_len_seq (by rfl) T.b_len (by decide +kernel) (pa_cons (pv 0) pa_nil)) pa_nil))) (pg_name (i := 3) sc__law_ll_threes.nd rfl (Or.inr rfl)) (pss_one (ps_set (i := 1) sc__law_ll_threes.nd rfl (Or.inl rfl) (pe_op op_cat (pv 1) (pe_lc (own := [("third", 4)]) rfl sc__law_ll_threes.nd (pi_range2 (by rfl) T.b_range (pa_cons (pv 3) (pa_cons (pe_callB call_len_seq (by rfl) T.b_len (by decide +kernel) (pa_cons (pv 0) pa_nil)) pa_nil))) (blkOk_by (N := ["lots", "found", "first", "second", "third"]) (sc := defScope st__law_ll_threes) (by decide +kernel)) (fun _ _ _ _ _ => (pg_name (i := 4) sc__law_ll_threes.nd rfl (Or.inl rfl))) (fun _ _ _ _ _ => pts_nil) (fun _ _ _ _ _ => (pe_tup (pa_cons (pe_ix ix_any (pv 0) (pv 2) (fun _ _ => rfl)) (pa_cons (pe_ix ix_any (pv 0) (pv 3) (fun _ _ => rfl)) (pa_cons (pe_ix ix_any (pv 0) (pv 4) (fun _ _ => rfl)) pa_nil)))))))))))) (pss_one (ps_ret (pv 1))))),
    (ss_seq (ss_asg (sim_alloc (sim_lst sim_nil)) g_name) (ss_seq (ss_for (sim_rng1 (sim_cons (sim_cb c_len (sim_cons sim_var sim_nil)) sim_nil)) g_name (ss_for (sim_rng2 (sim_cons sim_var (sim_cons (sim_cb c_len (sim_cons sim_var sim_nil)) sim_nil))) g_name (ss_asg (sim_alloc (sim_cat sim_var (sim_lc (sim_rng2 (sim_cons sim_var (sim_cons (sim_cb c_len (sim_cons sim_var sim_nil)) sim_nil))) g_name sim_tYes (sim_tup (sim_cons (sim_op s_ix sim_var sim_var) (sim_cons (sim_op s_ix sim_var sim_var) (sim_cons (sim_op s_ix sim_var sim_var) sim_nil))))))) g_name))) (ss_ret sim_var)))⟩
abbrev st__law_ll_rest : Stmt := top 45
theorem sc__law_ll_rest : FnScope ["many", "group", "member"] ["many", "group"] (defScope st__law_ll_rest) := ⟨rfl, rfl, rfl, by decide +kernel, rfl, by decide +kernel, by decide +kernel⟩
theorem ok__law_ll_rest {f : Addr} {fd : FuncData} (Fu : Fun K "_law_ll_rest" "_law_ll_rest" st__law_ll_rest f fd) (T : Txt K mg ad) : FnOk P w K mg base CX0 1 f fd ["many", "group"] (spN K Γ 2 F__law_ll_rest) := by
  refine def_fn (G := G__law_ll_rest) Fu sc__law_ll_rest (fun _ _ _ _ _ S h => trimP_ok S h) (fun cdv A outer s H E hr => ?_)
  exact ⟨_, (pss_one (ps_ret (pe_callTy call_tuple_of (by rfl) T.b_tuple (by decide +kernel) (pa_cons (pe_lc (own := [("member", 2)]) rfl sc__law_ll_rest.nd (pi_range1 (by rfl) T.b_range (pa_cons (pv 0) pa_nil)) (blkOk_by (N := ["many", "group", "member"]) (sc := defScope st__law_ll_rest) (by decide +kernel)) (fun _ _ _ _ _ => (pg_name (i := 2) sc__law_ll_rest.nd rfl (Or.inl rfl))) (fun _ _ _ _ _ => (pts_one (pt_cmpR (op_notInA (hu65 hr)) (pv 2) (pv 1) (by rfl)))) (fun _ _ _ _ _ => (pv 2))) pa_nil)))),
    (ss_ret (sim_cL l_tup (sim_lc (sim_rng1 (sim_cons sim_var sim_nil)) g_name (sim_tTest (sim_op s_notIn sim_var sim_var)) sim_var)))⟩
abbrev st__law_ll_kind : Stmt := top 49
theorem sc__law_ll_kind : FnScope ["caught", "hits", "found", "word", "hit"] ["caught"] (defScope st__law_ll_kind) := ⟨rfl, rfl, rfl, by decide +kernel, rfl, by decide +kernel, by decide +kernel⟩
theorem ok__law_ll_kind {f : Addr} {fd : FuncData} (Fu : Fun K "_law_ll_kind" "_law_ll_kind" st__law_ll_kind f fd) (T : Txt K mg ad) (gO : GOk Γ ad) (hp : ∀ (a : Addr) (c : Str), ∃ μ', fnG 5 (G__law_ll_kind a c) [.adr a] [] = .ok (.str (wordOf c)) μ') : FnOk P w K mg base CX0 1 f fd ["caught"] (spKind K Γ wordOf) := by
  refine def_kind (G := G__law_ll_kind) Fu sc__law_ll_kind rfl hp (fun a c C hC cdv A outer s H E hr => ?_)
  obtain ⟨⟨gc, _⟩, g_BadMany, g_BadLots, g_BadGroup, g_BadFamily, g_BadWeights⟩ := kit_facts T gO c C hC
  exact ⟨_, (pss_cons (ps_set (i := 1) sc__law_ll_kind.nd rfl (Or.inl rfl) (pe_lst (pa_cons (pe_tup (pa_cons pe_str (pa_cons (pe_callB (call_isK gc) (by rfl) T.b_isinstance (by decide +kernel) (pa_cons (pv 0) (pa_cons (pe_adr rfl T.m_BadMany) pa_nil))) pa_nil))) (pa_cons (pe_tup (pa_cons pe_str (pa_cons (pe_callB (call_isK gc) (by rfl) T.b_isinstance (by decide +kernel) (pa_cons (pv 0) (pa_cons (pe_adr rfl T.m_BadLots) pa_nil))) pa_nil))) (pa_cons (pe_tup (pa_cons pe_str (pa_cons (pe_callB (call_isK gc) (by rfl) T.b_isinstance (by decide +kernel) (pa_cons (pv 0) (pa_cons (pe_adr rfl T.m_BadGroup) pa_nil))) pa_nil))) (pa_cons (pe_tup (pa_cons pe_str (pa_cons (pe_callB (call_isK gc) (by rfl) T.b_isinstance (by decide +kernel) (pa_cons (pv 0) (pa_cons (pe_adr rfl T.m_BadFamily) pa_nil))) pa_nil))) (pa_cons (pe_tup (pa_cons pe_str (pa_cons (pe_callB (call_isK gc) (by rfl) T.b_isinstance (by decide +kernel) (pa_cons (pv 0) (pa_cons (pe_adr rfl T.m_BadWeights) pa_nil))) pa_nil))) pa_nil))))))) (pss_cons (ps_setLc (i := 2) (own := [("word", 3), ("hit", 4)]) rfl sc__law_ll_kind.nd rfl rfl (sw_true rfl rfl rfl (by decide +kernel)) (pi_seq (pv 1)) (blkOk_by (N := ["caught", "hits", "found", "word", "hit"]) (sc := defScope st__law_ll_kind) (by decide +kernel)) (fun _ _ _ _ _ => (pg_tup rfl (pgs_cons (pg_name (i := 3) sc__law_ll_kind.nd rfl (Or.inl rfl)) (pgs_cons (pg_name (i := 4) sc__law_ll_kind.nd rfl (Or.inl rfl)) pgs_nil)))) (fun _ _ _ _ _ => (pts_one (pt_val (pv 4)))) (fun _ _ _ _ _ => (pv 3))) (pss_one (ps_ret (pe_ifExp (pt_cmpR (op_eqD hr.units) (pe_callB call_len_seq (by rfl) T.b_len (by decide +kernel) (pa_cons (pv 2) pa_nil)) pe_int (nomark _)) (pe_ix ix_any (pv 2) pe_int (fun _ _ => rfl)) pe_str))))),
    (ss_seq (ss_asg (sim_alloc (sim_lst (sim_cons (sim_tup (sim_cons sim_str (sim_cons (sim_isx (List.Mem.head _) g_BadMany) sim_nil))) (sim_cons (sim_tup (sim_cons sim_str (sim_cons (sim_isx (List.Mem.head _) g_BadLots) sim_nil))) (sim_cons (sim_tup (sim_cons sim_str (sim_cons (sim_isx (List.Mem.head _) g_BadGroup) sim_nil))) (sim_cons (sim_tup (sim_cons sim_str (sim_cons (sim_isx (List.Mem.head _) g_BadFamily) sim_nil))) (sim_cons (sim_tup (sim_cons sim_str (sim_cons (sim_isx (List.Mem.head _) g_BadWeights) sim_nil))) sim_nil))))))) g_name) (ss_seq (ss_asg (sim_alloc (sim_lc (sim_seq sim_var) (g_tup (g_cons g_name (g_cons g_name g_nil))) (sim_tB sim_var) sim_var)) g_name) (ss_ret (sim_if (sim_tTest (sim_op s_eqD (sim_cb c_len (sim_cons sim_var sim_nil)) sim_int)) (sim_op s_ix sim_var sim_int) sim_str))))⟩
abbrev st_is_count : Stmt := top 12
theorem sc_is_count : FnScope ["value", "low", "most"] ["value", "low", "most"] (defScope st_is_count) := ⟨rfl, rfl, rfl, by decide +kernel, rfl, by decide +kernel, by decide +kernel⟩
theorem ok_is_count {f : Addr} {fd : FuncData} (Fu : Fun K "is_count" "is_count" st_is_count f fd) (T : Txt K mg ad) (D_is_number : DefN P w K Γ mg base 1 ad.is_number ["value", "low"] F_is_number) : FnOk P w K mg base CX0 2 f fd ["value", "low", "most"] (spN K Γ 3 F_is_count) := by
  obtain ⟨fd_is_number, ok_is_number, b_is_number⟩ := D_is_number
  refine def_fn (G := G_is_count) Fu sc_is_count (fun _ _ _ _ _ S h => trimP_ok S h) (fun cdv A outer s H E hr => ?_)
  exact ⟨_, (pss_one (ps_ret (pe_and (pe_call ok_is_number (hr.mono (by decide)) rfl T.m_is_number T.k_is_number b_is_number .nil pass0 (pa_cons (pv 0) (pa_cons (pv 1) pa_nil))) (pe_one (pe_cmpR op_le (pv 0) (pv 2) (nomark _)))))),
    (ss_ret (sim_andV (sim_callN (sim_cons sim_var (sim_cons sim_var sim_nil)) (cons_len (cons_len nil_len))) (sim_op s_le sim_var sim_var)))⟩
abbrev st_may_all_lie : Stmt := top 20
theorem sc_may_all_lie : FnScope ["lots", "group", "lot"] ["lots", "group"] (defScope st_may_all_lie) := ⟨rfl, rfl, rfl, by decide +kernel, rfl, by decide +kernel, by decide +kernel⟩
theorem ok_may_all_lie {f : Addr} {fd : FuncData} (Fu : Fun K "may_all_lie" "may_all_lie" st_may_all_lie f fd) (T : Txt K mg ad) (D_is_within : DefN P w K Γ mg base 1 ad.is_within ["one", "other"] F_is_within) : FnOk P w K mg base CX0 2 f fd ["lots", "group"] (spN K Γ 2 F_may_all_lie) := by
  obtain ⟨fd_is_within, ok_is_within, b_is_within⟩ := D_is_within
  refine def_fn (G := G_may_all_lie) Fu sc_may_all_lie (fun _ _ _ _ _ S h => trimP_ok S h) (fun cdv A outer s H E hr => ?_)
  exact ⟨_, (pss_one (ps_ret (pe_callB (cr_any rfl) (by rfl) T.b_any (by decide +kernel) (pa_cons (pe_lc (own := [("lot", 2)]) rfl sc_may_all_lie.nd (pi_seq (pv 0)) (blkOk_by (N := ["lots", "group", "lot"]) (sc := defScope st_may_all_lie) (by decide +kernel)) (fun _ _ _ _ _ => (pg_name (i := 2) sc_may_all_lie.nd rfl (Or.inl rfl))) (fun _ _ _ _ _ => pts_nil) (fun _ _ _ _ _ => (pe_call ok_is_within (hr.mono (by decide)) rfl T.m_is_within T.k_is_within b_is_within .nil pass0 (pa_cons (pv 1) (pa_cons (pv 2) pa_nil))))) pa_nil)))),
    (ss_ret (sim_cL l_any (sim_lc (sim_seq sim_var) g_name sim_tYes (sim_callN (sim_cons sim_var (sim_cons sim_var sim_nil)) (cons_len (cons_len nil_len))))))⟩
abbrev st_three_by : Stmt := top 24
theorem sc_three_by : FnScope ["many", "lots", "three"] ["many", "lots"] (defScope st_three_by) := ⟨rfl, rfl, rfl, by decide +kernel, rfl, by decide +kernel, by decide +kernel⟩
theorem ok_three_by {f : Addr} {fd : FuncData} (Fu : Fun K "three_by" "three_by" st_three_by f fd) (T : Txt K mg ad) (D_triples_of : DefN P w K Γ mg base 1 ad.triples_of ["lots"] F_triples_of) (D_all_of : DefN P w K Γ mg base 1 ad.all_of ["groups"] F_all_of) : FnOk P w K mg base CX0 2 f fd ["many", "lots"] (spN K Γ 2 F_three_by) := by
  obtain ⟨fd_triples_of, ok_triples_of, b_triples_of⟩ := D_triples_of
  obtain ⟨fd_all_of, ok_all_of, b_all_of⟩ := D_all_of
  refine def_fn (G := G_three_by) Fu sc_three_by (fun _ _ _ _ _ S h => trimP_ok S h) (fun cdv A outer s H E hr => ?_)
  exact ⟨_, (pss_cons (ps_for PassesOwn.never rfl (pi_seq (pe_call ok_triples_of (hr.mono (by decide)) rfl T.m_triples_of T.k_triples_of b_triples_of .nil pass0 (pa_cons (pv 1) pa_nil))) (pg_name (i := 2) sc_three_by.nd rfl (Or.inl rfl)) (pss_one (ps_if (pt_cmpR (op_eqD hr.units) (pe_callB call_len_seq (by rfl) T.b_len (by decide +kernel) (pa_cons (pe_call ok_all_of (hr.mono (by decide)) rfl T.m_all_of T.k_all_of b_all_of .nil pass0 (pa_cons (pv 2) pa_nil)) pa_nil)) (pv 0) (nomark _)) (pss_one (ps_ret (pv 2))) pss_nil))) (pss_one (ps_ret pe_non))),
    (ss_seq (ss_for (sim_seq (sim_callN (sim_cons sim_var sim_nil) (cons_len nil_len))) g_name (ss_if (sim_tTest (sim_op s_eqD (sim_cb c_len (sim_cons (sim_callN (sim_cons sim_var sim_nil) (cons_len nil_len)) sim_nil)) sim_var)) (ss_ret sim_var) ss_next)) (ss_ret sim_non))⟩
abbrev st__law_draw : Stmt := top 36
theorem sc__law_draw : FnScope ["state", "size_here", "found"] ["state", "size_here"] (defScope st__law_draw) := ⟨rfl, rfl, rfl, by decide +kernel, rfl, by decide +kernel, by decide +kernel⟩
theorem ok__law_draw {f : Addr} {fd : FuncData} (Fu : Fun K "_law_draw" "_law_draw" st__law_draw f fd) (T : Txt K mg ad) (D__law_blended : DefN P w K Γ mg base 1 ad._law_blended ["state"] F__law_blended) : FnOk P w K mg base CX0 2 f fd ["state", "size_here"] (spN K Γ 2 F__law_draw) := by
  obtain ⟨fd__law_blended, ok__law_blended, b__law_blended⟩ := D__law_blended
  refine def_fn (G := G__law_draw) Fu sc__law_draw (fun _ _ _ _ _ S h => trimW_ok S h) (fun cdv A outer s H E hr => ?_)
  exact ⟨_, (pss_cons (ps_if (pt_cmpR (op_eqD hr.units) (pe_dget (hu_of hr) (pv 0) pe_str (fun _ _ => rfl)) pe_int (nomark _)) (pss_one (ps_dput (hu_of hr) (pv 0) pe_str (pe_ifExp (pt_cmpR (op_neNil hr.units0) (pe_dget (hu_of hr) (pv 0) pe_str (fun _ _ => rfl)) (pe_lst pa_nil) (nomark _)) (pe_bm PySem.F.plainAttrs_list PySem.F.slot_list_pop PySem.F.type_list_pop mt_popAt (pe_dget (hu_of hr) (pv 0) pe_str (fun _ _ => rfl)) (pa_cons pe_int pa_nil)) (pe_call ok__law_blended (hr.mono (by decide)) rfl T.m__law_blended T.k__law_blended b__law_blended .nil pass0 (pa_cons (pv 0) pa_nil))) rfl)) pss_nil) (pss_cons (ps_set (i := 2) sc__law_draw.nd rfl (Or.inl rfl) (pe_op op_mod (pe_callTy call_int1 (by rfl) T.b_int (by decide +kernel) (pa_cons (pe_dget (hu_of hr) (pv 0) pe_str (fun _ _ => rfl)) pa_nil)) (pv 1))) (pss_cons (ps_dput (hu_of hr) (pv 0) pe_str (pe_op op_fdiv (pe_dget (hu_of hr) (pv 0) pe_str (fun _ _ => rfl)) (pv 1)) rfl) (pss_one (ps_ret (pv 2)))))),
    (ss_seq (ss_if (sim_tTest (sim_op s_eqD (sim_dget sim_var sim_str) sim_int)) (ss_dput sim_var sim_str (sim_if (sim_tTest (sim_nilL (sim_dget sim_var sim_str))) (sim_pop (sim_dget sim_var sim_str) sim_int) (sim_callN (sim_cons sim_var sim_nil) (cons_len nil_len)))) ss_next) (ss_seq (ss_asg (sim_op s_mod (sim_cb c_int (sim_cons (sim_dget sim_var sim_str) sim_nil)) sim_var) g_name) (ss_seq (ss_dput sim_var sim_str (sim_op s_fdiv (sim_dget sim_var sim_str) sim_var)) (ss_ret sim_var))))⟩
abbrev st__law_ll_may : Stmt := top 46
theorem sc__law_ll_may : FnScope ["lots", "group", "lot"] ["lots", "group"] (defScope st__law_ll_may) := ⟨rfl, rfl, rfl, by decide +kernel, rfl, by decide +kernel, by decide +kernel⟩
theorem ok__law_ll_may {f : Addr} {fd : FuncData} (Fu : Fun K "_law_ll_may" "_law_ll_may" st__law_ll_may f fd) (T : Txt K mg ad) (D__law_ll_within : DefN P w K Γ mg base 1 ad._law_ll_within ["one", "other"] F__law_ll_within) : FnOk P w K mg base CX0 2 f fd ["lots", "group"] (spN K Γ 2 F__law_ll_may) := by
  obtain ⟨fd__law_ll_within, ok__law_ll_within, b__law_ll_within⟩ := D__law_ll_within
  refine def_fn (G := G__law_ll_may) Fu sc__law_ll_may (fun _ _ _ _ _ S h => trimP_ok S h) (fun cdv A outer s H E hr => ?_)
  exact ⟨_, (pss_one (ps_ret (pe_cmpR (op_neNil hr.units0) (pe_lc (own := [("lot", 2)]) rfl sc__law_ll_may.nd (pi_seq (pv 0)) (blkOk_by (N := ["lots", "group", "lot"]) (sc := defScope st__law_ll_may) (by decide +kernel)) (fun _ _ _ _ _ => (pg_name (i := 2) sc__law_ll_may.nd rfl (Or.inl rfl))) (fun _ _ _ _ _ => (pts_one (pt_val (pe_call ok__law_ll_within (hr.mono (by decide)) rfl T.m__law_ll_within T.k__law_ll_within b__law_ll_within .nil pass0 (pa_cons (pv 1) (pa_cons (pv 2) pa_nil)))))) (fun _ _ _ _ _ => pe_int)) (pe_lst pa_nil) (nomark _)))),
    (ss_ret (sim_nilL (sim_lc (sim_seq sim_var) g_name (sim_tB (sim_callN (sim_cons sim_var (sim_cons sim_var sim_nil)) (cons_len (cons_len nil_len)))) sim_int)))⟩
abbrev st__law_ll_first : Stmt := top 47
theorem sc__law_ll_first : FnScope ["many", "lots", "some", "three"] ["many", "lots"] (defScope st__law_ll_first) := ⟨rfl, rfl, rfl, by decide +kernel, rfl, by decide +kernel, by decide +kernel⟩
theorem ok__law_ll_first {f : Addr} {fd : FuncData} (Fu : Fun K "_law_ll_first" "_law_ll_first" st__law_ll_first f fd) (T : Txt K mg ad) (D__law_ll_threes : DefN P w K Γ mg base 1 ad._law_ll_threes ["lots"] F__law_ll_threes) : FnOk P w K mg base CX0 2 f fd ["many", "lots"] (spN K Γ 2 F__law_ll_first) := by
  obtain ⟨fd__law_ll_threes, ok__law_ll_threes, b__law_ll_threes⟩ := D__law_ll_threes
  refine def_fn (G := G__law_ll_first) Fu sc__law_ll_first (fun _ _ _ _ _ S h => trimP_ok S h) (fun cdv A outer s H E hr => ?_)
  exact ⟨_, (pss_cons (ps_setLc (i := 2) (own := [("three", 3)]) rfl sc__law_ll_first.nd rfl rfl (sw_true rfl rfl rfl (by decide +kernel)) (pi_seq (pe_call ok__law_ll_threes (hr.mono (by decide)) rfl T.m__law_ll_threes T.k__law_ll_threes b__law_ll_threes .nil pass0 (pa_cons (pv 1) pa_nil))) (blkOk_by (N := ["many", "lots", "some", "three"]) (sc := defScope st__law_ll_first) (by decide +kernel)) (fun _ _ _ _ _ => (pg_name (i := 3) sc__law_ll_first.nd rfl (Or.inl rfl))) (fun _ _ _ _ _ => (pts_one (pt_cmpR (op_eqD hr.units) (pe_callB (cr_lenSet (by rfl)) (by rfl) T.b_len (by decide +kernel) (pa_cons (pe_callTy (cr_setI (by rfl)) (by rfl) T.b_set (by decide +kernel) (pa_cons (pe_op op_addA (pe_op op_addA (pe_ix ix_any (pv 3) pe_int (fun _ _ => rfl)) (pe_ix ix_any (pv 3) pe_int (fun _ _ => rfl))) (pe_ix ix_any (pv 3) pe_int (fun _ _ => rfl))) pa_nil)) pa_nil)) (pv 0) (nomark _)))) (fun _ _ _ _ _ => (pv 3))) (pss_one (ps_ret (pe_ifExp (pt_cmpR (op_neNil hr.units0) (pv 2) (pe_lst pa_nil) (nomark _)) (pe_ix ix_any (pv 2) pe_int (fun _ _ => rfl)) pe_non)))),
    (ss_seq (ss_asg (sim_alloc (sim_lc (sim_seq (sim_callN (sim_cons sim_var sim_nil) (cons_len nil_len))) g_name (sim_tTest (sim_op s_eqD (sim_lenSet (sim_op s_add (sim_op s_add (sim_op s_ix sim_var sim_int) (sim_op s_ix sim_var sim_int)) (sim_op s_ix sim_var sim_int))) sim_var)) sim_var)) g_name) (ss_ret (sim_if (sim_tTest (sim_nilL sim_var)) (sim_op s_ix sim_var sim_int) sim_non)))⟩
abbrev st__law_ll_binds : Stmt := top 48
theorem sc__law_ll_binds : FnScope ["many", "lots", "group", "rest", "three"] ["many", "lots", "group"] (defScope st__law_ll_binds) := ⟨rfl, rfl, rfl, by decide +kernel, rfl, by decide +kernel, by decide +kernel⟩
theorem ok__law_ll_binds {f : Addr} {fd : FuncData} (Fu : Fun K "_law_ll_binds" "_law_ll_binds" st__law_ll_binds f fd) (T : Txt K mg ad) (D__law_ll_rest : DefN P w K Γ mg base 1 ad._law_ll_rest ["many", "group"] F__law_ll_rest) (D__law_ll_threes : DefN P w K Γ mg base 1 ad._law_ll_threes ["lots"] F__law_ll_threes) (D__law_ll_within : DefN P w K Γ mg base 1 ad._law_ll_within ["one", "other"] F__law_ll_within) : FnOk P w K mg base CX0 2 f fd ["many", "lots", "group"] (spN K Γ 3 F__law_ll_binds) := by
  obtain ⟨fd__law_ll_rest, ok__law_ll_rest, b__law_ll_rest⟩ := D__law_ll_rest
  obtain ⟨fd__law_ll_threes, ok__law_ll_threes, b__law_ll_threes⟩ := D__law_ll_threes
  obtain ⟨fd__law_ll_within, ok__law_ll_within, b__law_ll_within⟩ := D__law_ll_within
  refine def_fn (G := G__law_ll_binds) Fu sc__law_ll_binds (fun _ _ _ _ _ S h => trimP_ok S h) (fun cdv A outer s H E hr => ?_)
  exact ⟨_, (pss_cons (ps_set (i := 3) sc__law_ll_binds.nd rfl (Or.inr rfl) (pe_call ok__law_ll_rest (hr.mono (by decide)) rfl T.m__law_ll_rest T.k__law_ll_rest b__law_ll_rest .nil pass0 (pa_cons (pv 0) (pa_cons (pv 2) pa_nil)))) (pss_one (ps_ret (pe_cmpR (op_neNil hr.units0) (pe_lc (own := [("three", 4)]) rfl sc__law_ll_binds.nd (pi_seq (pe_call ok__law_ll_threes (hr.mono (by decide)) rfl T.m__law_ll_threes T.k__law_ll_threes b__law_ll_threes .nil pass0 (pa_cons (pv 1) pa_nil))) (blkOk_by (N := ["many", "lots", "group", "rest", "three"]) (sc := defScope st__law_ll_binds) (by decide +kernel)) (fun _ _ _ _ _ => (pg_name (i := 4) sc__law_ll_binds.nd rfl (Or.inl rfl))) (fun _ _ _ _ _ => (pts_one (pt_val (pe_call ok__law_ll_within (hr.mono (by decide)) rfl T.m__law_ll_within T.k__law_ll_within b__law_ll_within .nil pass0 (pa_cons (pv 3) (pa_cons (pe_op op_addA (pe_op op_addA (pe_ix ix_any (pv 4) pe_int (fun _ _ => rfl)) (pe_ix ix_any (pv 4) pe_int (fun _ _ => rfl))) (pe_ix ix_any (pv 4) pe_int (fun _ _ => rfl))) pa_nil)))))) (fun _ _ _ _ _ => pe_int)) (pe_lst pa_nil) (nomark _))))),
    (ss_seq (ss_asg (sim_callN (sim_cons sim_var (sim_cons sim_var sim_nil)) (cons_len (cons_len nil_len))) g_name) (ss_ret (sim_nilL (sim_lc (sim_seq (sim_callN (sim_cons sim_var sim_nil) (cons_len nil_len))) g_name (sim_tB (sim_callN (sim_cons sim_var (sim_cons (sim_op s_add (sim_op s_add (sim_op s_ix sim_var sim_int) (sim_op s_ix sim_var sim_int)) (sim_op s_ix sim_var sim_int)) sim_nil)) (cons_len (cons_len nil_len)))) sim_int))))⟩
abbrev st_is_group : Stmt := top 13
theorem sc_is_group : FnScope ["many", "value", "one", "other"] ["many", "value"] (defScope st_is_group) := ⟨rfl, rfl, rfl, by decide +kernel, rfl, by decide +kernel, by decide +kernel⟩
theorem ok_is_group {f : Addr} {fd : FuncData} (Fu : Fun K "is_group" "is_group" st_is_group f fd) (T : Txt K mg ad) (D_is_count : DefN P w K Γ mg base 2 ad.is_count ["value", "low", "most"] F_is_count) : FnOk P w K mg base CX0 3 f fd ["many", "value"] (spN K Γ 2 F_is_group) := by
  obtain ⟨fd_is_count, ok_is_count, b_is_count⟩ := D_is_count
  refine def_fn (G := G_is_group) Fu sc_is_group (fun _ _ _ _ _ S h => trimP_ok S h) (fun cdv A outer s H E hr => ?_)
  exact ⟨_, (pss_cons (ps_if (PW.pt (pw_or (pt_not (pt_val (pe_callB call_isi (by rfl) T.b_isinstance (by decide +kernel) (pa_cons (pv 1) (pa_cons (pe_bltn (v := .ty "tuple") (by rfl) T.b_tuple (by decide +kernel) rfl) pa_nil))))) (pw_or1 (pt_not (pt_val (pe_callB (cr_all rfl) (by rfl) T.b_all (by decide +kernel) (pa_cons (pe_lc (own := [("one", 2)]) rfl sc_is_group.nd (pi_seq (pv 1)) (blkOk_by (N := ["many", "value", "one", "other"]) (sc := defScope st_is_group) (by decide +kernel)) (fun _ _ _ _ _ => (pg_name (i := 2) sc_is_group.nd rfl (Or.inl rfl))) (fun _ _ _ _ _ => pts_nil) (fun _ _ _ _ _ => (pe_call ok_is_count (hr.mono (by decide)) rfl T.m_is_count T.k_is_count b_is_count .nil pass0 (pa_cons (pv 2) (pa_cons pe_int (pa_cons (pe_op op_sub (pv 0) pe_int) pa_nil)))))) pa_nil))))))) (pss_one (ps_ret pe_bl)) pss_nil) (pss_one (ps_ret (pe_callB (cr_all rfl) (by rfl) T.b_all (by decide +kernel) (pa_cons (pe_lc (own := [("one", 2), ("other", 3)]) rfl sc_is_group.nd (RZ.pi_zipA (by rfl) T.b_zip (pa_cons (pv 1) (pa_cons (pe_slice sl_tupA (pv 1) (po_some pe_int) po_none) pa_nil))) (blkOk_by (N := ["many", "value", "one", "other"]) (sc := defScope st_is_group) (by decide +kernel)) (fun _ _ _ _ _ => (pg_tup rfl (pgs_cons (pg_name (i := 2) sc_is_group.nd rfl (Or.inl rfl)) (pgs_cons (pg_name (i := 3) sc_is_group.nd rfl (Or.inl rfl)) pgs_nil)))) (fun _ _ _ _ _ => pts_nil) (fun _ _ _ _ _ => (pe_cmpR (op_ltA hr.units0) (pv 2) (pv 3) (nomark _)))) pa_nil))))),
    (ss_seq (ss_if (sim_tOr (sim_tNot (sim_tB (sim_cb c_isi (sim_cons sim_var (sim_cons sim_ty sim_nil))))) (sim_tNot (sim_tB (sim_cL l_all (sim_lc (sim_seq sim_var) g_name sim_tYes (sim_callN (sim_cons sim_var (sim_cons sim_int (sim_cons (sim_op s_sub sim_var sim_int) sim_nil))) (cons_len (cons_len (cons_len nil_len))))))))) (ss_ret sim_bl) ss_next) (ss_ret (sim_cL l_all (sim_lc (sim_zip (sim_cons sim_var (sim_cons (sim_slT sim_var (so_some sim_int) so_none) sim_nil))) (g_tup (g_cons g_name (g_cons g_name g_nil))) sim_tYes (sim_op s_lt sim_var sim_var)))))⟩
abbrev st_need_many : Stmt := top 15
theorem sc_need_many : FnScope ["many"] ["many"] (defScope st_need_many) := ⟨rfl, rfl, rfl, by decide +kernel, rfl, by decide +kernel, by decide +kernel⟩
theorem ok_need_many {f : Addr} {fd : FuncData} (Fu : Fun K "need_many" "need_many" st_need_many f fd) (T : Txt K mg ad) (D_is_count : DefN P w K Γ mg base 2 ad.is_count ["value", "low", "most"] F_is_count) : FnOk P w K mg base CX0 3 f fd ["many"] (spN K Γ 1 F_need_many) := by
  obtain ⟨fd_is_count, ok_is_count, b_is_count⟩ := D_is_count
  refine def_fn (G := G_need_many) Fu sc_need_many (fun _ _ _ _ _ S h => trimP_ok S h) (fun cdv A outer s H E hr => ?_)
  exact ⟨_, (pss_one (ps_if (pt_not (pt_val (pe_call ok_is_count (hr.mono (by decide)) rfl T.m_is_count T.k_is_count b_is_count .nil pass0 (pa_cons (pv 0) (pa_cons pe_int (pa_cons (pe_glob (v := .int 7) rfl T.c_MOST_COUNTED.choose_spec ⟨_, rfl⟩) pa_nil)))))) (pss_one ps_never) pss_nil)),
    (ss_if (sim_tNot (sim_tB (sim_callN (sim_cons sim_var (sim_cons sim_int (sim_cons sim_int sim_nil))) (cons_len (cons_len (cons_len nil_len)))))) ss_never ss_next)⟩
theorem okx_need_many {f : Addr} {fd : FuncData} (Fu : Fun K "need_many" "need_many" st_need_many f fd) (T : Txt K mg ad) (gO : GOk Γ ad) (D_is_count : DefN P w K Γ mg base 2 ad.is_count ["value", "low", "most"] F_is_count) : FnOk P w K mg base (L2.CX P w) 3 f fd ["many"] (spX K Γ 1 X_need_many) := by
  obtain ⟨fd_is_count, ok_is_count, b_is_count⟩ := D_is_count
  refine def_fnX (G := GX_need_many) Fu sc_need_many (fun _ _ _ _ _ _ S h => trimX_ok S h) (fun cdv A outer s H E hr tk => ?_)
  exact ⟨_, (pss_one (ps_if (PT.nox (pt_not (pt_val (pe_call ok_is_count (hr.mono (by decide)) rfl T.m_is_count T.k_is_count b_is_count .nil pass0 (pa_cons (pv 0) (pa_cons pe_int (pa_cons (pe_glob (v := .int 7) rfl T.c_MOST_COUNTED.choose_spec ⟨_, rfl⟩) pa_nil))))))) (pss_one (ps_raiseX rfl tk PySem.F.excBase_ValueError T.v_BadMany.t T.m_BadMany rfl)) pss_nil)),
    (ss_if (sim_tNot (sim_tB (sim_callNX (sim_cons sim_var (sim_cons sim_int (sim_cons sim_int sim_nil))) (cons_len (cons_len (cons_len nil_len)))))) (ss_raise gO.g_BadMany) ss_next)⟩
abbrev st__law_pick : Stmt := top 37
theorem sc__law_pick : FnScope ["state", "several"] ["state", "several"] (defScope st__law_pick) := ⟨rfl, rfl, rfl, by decide +kernel, rfl, by decide +kernel, by decide +kernel⟩
theorem ok__law_pick {f : Addr} {fd : FuncData} (Fu : Fun K "_law_pick" "_law_pick" st__law_pick f fd) (T : Txt K mg ad) (D__law_draw : DefN P w K Γ mg base 2 ad._law_draw ["state", "size_here"] F__law_draw) : FnOk P w K mg base CX0 3 f fd ["state", "several"] (spN K Γ 2 F__law_pick) := by
  obtain ⟨fd__law_draw, ok__law_draw, b__law_draw⟩ := D__law_draw
  refine def_fn (G := G__law_pick) Fu sc__law_pick (fun _ _ _ _ _ S h => trimW_ok S h) (fun cdv A outer s H E hr => ?_)
  exact ⟨_, (pss_one (ps_ret (pe_ix ix_any (pv 1) (pe_call ok__law_draw (hr.mono (by decide)) rfl T.m__law_draw T.k__law_draw b__law_draw .nil pass0 (pa_cons (pv 0) (pa_cons (pe_callB call_len_seq (by rfl) T.b_len (by decide +kernel) (pa_cons (pv 1) pa_nil)) pa_nil))) (fun _ _ => rfl)))),
    (ss_ret (sim_op s_ix sim_var (sim_callN (sim_cons sim_var (sim_cons (sim_cb c_len (sim_cons sim_var sim_nil)) sim_nil)) (cons_len (cons_len nil_len)))))⟩
abbrev st__law_mixed : Stmt := top 38
theorem sc__law_mixed : FnScope ["state", "several", "left", "found"] ["state", "several"] (defScope st__law_mixed) := ⟨rfl, rfl, rfl, by decide +kernel, rfl, by decide +kernel, by decide +kernel⟩
theorem ok__law_mixed {f : Addr} {fd : FuncData} (Fu : Fun K "_law_mixed" "_law_mixed" st__law_mixed f fd) (T : Txt K mg ad) (D__law_draw : DefN P w K Γ mg base 2 ad._law_draw ["state", "size_here"] F__law_draw) : FnOk P w K mg base CX0 3 f fd ["state", "several"] (spN K Γ 2 F__law_mixed) := by
  obtain ⟨fd__law_draw, ok__law_draw, b__law_draw⟩ := D__law_draw
  refine def_fn (G := G__law_mixed) Fu sc__law_mixed (fun _ _ _ _ _ _ h => h) (fun cdv A outer s H E hr => ?_)
  exact ⟨_, (pss_cons (ps_par (by rfl) sc__law_mixed.nd rfl rfl (by decide) rfl rfl (pa_cons (pe_callTy call_list_of (by rfl) T.b_list (by decide +kernel) (pa_cons (pv 1) pa_nil)) (pa_cons (pe_lst pa_nil) pa_nil)) (by rfl)) (pss_cons (ps_while PassesOwn.never (pt_cmpR (op_neNil hr.units0) (pv 2) (pe_lst pa_nil) (nomark _)) (pss_one (ps_expr (pe_bm PySem.F.plainAttrs_list PySem.F.slot_list_append PySem.F.type_list_append mt_append (pv 3) (pa_cons (pe_bm PySem.F.plainAttrs_list PySem.F.slot_list_pop PySem.F.type_list_pop mt_popAt (pv 2) (pa_cons (pe_call ok__law_draw (hr.mono (by decide)) rfl T.m__law_draw T.k__law_draw b__law_draw .nil pass0 (pa_cons (pv 0) (pa_cons (pe_callB call_len_seq (by rfl) T.b_len (by decide +kernel) (pa_cons (pv 2) pa_nil)) pa_nil))) pa_nil)) pa_nil))))) (pss_one (ps_ret (pv 3))))),
    (ss_seq (ss_par (sim_cons (sim_alloc (sim_lstOf sim_var)) (sim_cons (sim_alloc (sim_lst sim_nil)) sim_nil))) (ss_seq (ss_while 1000 (sim_tTest (sim_nilL sim_var)) (ss_drop (sim_app sim_var (sim_pop sim_var (sim_callN (sim_cons sim_var (sim_cons (sim_cb c_len (sim_cons sim_var sim_nil)) sim_nil)) (cons_len (cons_len nil_len))))))) (ss_ret sim_var)))⟩
abbrev st__law_ll_group : Stmt := top 42
theorem sc__law_ll_group : FnScope ["state", "many", "member"] ["state", "many"] (defScope st__law_ll_group) := ⟨rfl, rfl, rfl, by decide +kernel, rfl, by decide +kernel, by decide +kernel⟩
theorem ok__law_ll_group {f : Addr} {fd : FuncData} (Fu : Fun K "_law_ll_group" "_law_ll_group" st__law_ll_group f fd) (T : Txt K mg ad) (D__law_draw : DefN P w K Γ mg base 2 ad._law_draw ["state", "size_here"] F__law_draw) : FnOk P w K mg base CX0 3 f fd ["state", "many"] (spN K Γ 2 F__law_ll_group) := by
  obtain ⟨fd__law_draw, ok__law_draw, b__law_draw⟩ := D__law_draw
  refine def_fn (G := G__law_ll_group) Fu sc__law_ll_group (fun _ _ _ _ _ S h => trimW_ok S h) (fun cdv A outer s H E hr => ?_)
  exact ⟨_, (pss_one (ps_ret (pe_callTy call_tuple_of (by rfl) T.b_tuple (by decide +kernel) (pa_cons (pe_lc (own := [("member", 2)]) rfl sc__law_ll_group.nd (pi_range1 (by rfl) T.b_range (pa_cons (pv 1) pa_nil)) (blkOk_by (N := ["state", "many", "member"]) (sc := defScope st__law_ll_group) (by decide +kernel)) (fun _ _ _ _ _ => (pg_name (i := 2) sc__law_ll_group.nd rfl (Or.inl rfl))) (fun _ _ _ _ _ => (pts_one (pt_cmpR (op_eqD hr.units) (pe_call ok__law_draw (hr.mono (by decide)) rfl T.m__law_draw T.k__law_draw b__law_draw .nil pass0 (pa_cons (pv 0) (pa_cons pe_int pa_nil))) pe_int (nomark _)))) (fun _ _ _ _ _ => (pv 2))) pa_nil)))),
    (ss_ret (sim_cL l_tup (sim_lc (sim_rng1 (sim_cons sim_var sim_nil)) g_name (sim_tTest (sim_op s_eqD (sim_callN (sim_cons sim_var (sim_cons sim_int sim_nil)) (cons_len (cons_len nil_len))) sim_int)) sim_var)))⟩
abbrev st_need_lots : Stmt := top 16
theorem sc_need_lots : FnScope ["many", "lots", "one", "other", "lot"] ["many", "lots"] (defScope st_need_lots) := ⟨rfl, rfl, rfl, by decide +kernel, rfl, by decide +kernel, by decide +kernel⟩
theorem ok_need_lots {f : Addr} {fd : FuncData} (Fu : Fun K "need_lots" "need_lots" st_need_lots f fd) (T : Txt K mg ad) (D_need_many : DefN P w K Γ mg base 3 ad.need_many ["many"] F_need_many) (D_is_group : DefN P w K Γ mg base 3 ad.is_group ["many", "value"] F_is_group) (D_is_within : DefN P w K Γ mg base 1 ad.is_within ["one", "other"] F_is_within) : FnOk P w K mg base CX0 4 f fd ["many", "lots"] (spN K Γ 2 F_need_lots) := by
  obtain ⟨fd_need_many, ok_need_many, b_need_many⟩ := D_need_many
  obtain ⟨fd_is_group, ok_is_group, b_is_group⟩ := D_is_group
  obtain ⟨fd_is_within, ok_is_within, b_is_within⟩ := D_is_within
  refine def_fn (G := G_need_lots) Fu sc_need_lots (fun _ _ _ _ _ S h => trimP_ok S h) (fun cdv A outer s H E hr => ?_)
  exact ⟨_, (pss_cons (ps_expr (pe_call ok_need_many (hr.mono (by decide)) rfl T.m_need_many T.k_need_many b_need_many .nil pass0 (pa_cons (pv 0) pa_nil))) (pss_cons (ps_if (PW.pt (pw_or (pt_not (pt_val (pe_callB call_isi (by rfl) T.b_isinstance (by decide +kernel) (pa_cons (pv 1) (pa_cons (pe_bltn (v := .ty "tuple") (by rfl) T.b_tuple (by decide +kernel) rfl) pa_nil))))) (pw_or (pt_cmpR (op_eqNil hr.units0) (pv 1) (pe_tup pa_nil) (nomark _)) (pw_or1 (pt_not (pt_val (pe_callB (cr_all rfl) (by rfl) T.b_all (by decide +kernel) (pa_cons (pe_lc (own := [("lot", 4)]) rfl sc_need_lots.nd (pi_seq (pv 1)) (blkOk_by (N := ["many", "lots", "one", "other", "lot"]) (sc := defScope st_need_lots) (by decide +kernel)) (fun _ _ _ _ _ => (pg_name (i := 4) sc_need_lots.nd rfl (Or.inl rfl))) (fun _ _ _ _ _ => pts_nil) (fun _ _ _ _ _ => (pe_call ok_is_group (hr.mono (by decide)) rfl T.m_is_group T.k_is_group b_is_group .nil pass0 (pa_cons (pv 0) (pa_cons (pv 4) pa_nil))))) pa_nil)))))))) (pss_one ps_never) pss_nil) (pss_cons (ps_if (pt_not (pt_val (pe_callB (cr_all rfl) (by rfl) T.b_all (by decide +kernel) (pa_cons (pe_lc (own := [("one", 2), ("other", 3)]) rfl sc_need_lots.nd (RZ.pi_zipA (by rfl) T.b_zip (pa_cons (pv 1) (pa_cons (pe_slice sl_tupA (pv 1) (po_some pe_int) po_none) pa_nil))) (blkOk_by (N := ["many", "lots", "one", "other", "lot"]) (sc := defScope st_need_lots) (by decide +kernel)) (fun _ _ _ _ _ => (pg_tup rfl (pgs_cons (pg_name (i := 2) sc_need_lots.nd rfl (Or.inl rfl)) (pgs_cons (pg_name (i := 3) sc_need_lots.nd rfl (Or.inl rfl)) pgs_nil)))) (fun _ _ _ _ _ => pts_nil) (fun _ _ _ _ _ => (pe_cmpR (op_ltA hr.units0) (pv 2) (pv 3) (nomark _)))) pa_nil)))) (pss_one ps_never) pss_nil) (pss_one (ps_if (pt_val (pe_callB (cr_any rfl) (by rfl) T.b_any (by decide +kernel) (pa_cons (pe_lc2 (own := [("one", 2), ("other", 3)]) (vs1 := [3]) rfl sc_need_lots.nd (pi_seq (pv 1)) (blkOk_by (N := ["many", "lots", "one", "other", "lot"]) (sc := defScope st_need_lots) (by decide +kernel)) (by decide) (fun _ _ _ _ _ => (pg_name (i := 2) sc_need_lots.nd rfl (Or.inl rfl))) (fun _ _ _ _ _ => pts_nil) (fun _ _ _ _ _ => (pi_seq (pv 1))) (fun _ _ _ _ _ => (pg_name (i := 3) sc_need_lots.nd rfl (Or.inl rfl))) (fun _ _ _ _ _ => pts_nil) (fun _ _ _ _ _ => (pe_and (pe_cmpR (op_neD hr.units) (pv 2) (pv 3) (nomark _)) (pe_one (pe_call ok_is_within (hr.mono (by decide)) rfl T.m_is_within T.k_is_within b_is_within .nil pass0 (pa_cons (pv 2) (pa_cons (pv 3) pa_nil))))))) pa_nil))) (pss_one ps_never) pss_nil))))),
    (ss_seq (ss_drop (sim_callN (sim_cons sim_var sim_nil) (cons_len nil_len))) (ss_seq (ss_if (sim_tOr (sim_tNot (sim_tB (sim_cb c_isi (sim_cons sim_var (sim_cons sim_ty sim_nil))))) (sim_tOr (sim_tTest (sim_nilT sim_var)) (sim_tNot (sim_tB (sim_cL l_all (sim_lc (sim_seq sim_var) g_name sim_tYes (sim_callN (sim_cons sim_var (sim_cons sim_var sim_nil)) (cons_len (cons_len nil_len))))))))) ss_never ss_next) (ss_seq (ss_if (sim_tNot (sim_tB (sim_cL l_all (sim_lc (sim_zip (sim_cons sim_var (sim_cons (sim_slT sim_var (so_some sim_int) so_none) sim_nil))) (g_tup (g_cons g_name (g_cons g_name g_nil))) sim_tYes (sim_op s_lt sim_var sim_var))))) ss_never ss_next) (ss_if (sim_tB (sim_cL l_any (sim_lc2 (sim_seq sim_var) g_name sim_tYes (sim_seq sim_var) g_name sim_tYes (sim_andV (sim_op s_neD sim_var sim_var) (sim_callN (sim_cons sim_var (sim_cons sim_var sim_nil)) (cons_len (cons_len nil_len))))))) ss_never ss_next))))⟩
theorem okx_need_lots {f : Addr} {fd : FuncData} (Fu : Fun K "need_lots" "need_lots" st_need_lots f fd) (T : Txt K mg ad) (gO : GOk Γ ad) (D_is_group : DefN P w K Γ mg base 3 ad.is_group ["many", "value"] F_is_group) (D_is_within : DefN P w K Γ mg base 1 ad.is_within ["one", "other"] F_is_within) (DX_need_many : DefX P w K Γ mg base 3 ad.need_many ["many"] X_need_many) : FnOk P w K mg base (L2.CX P w) 4 f fd ["many", "lots"] (spX K Γ 2 X_need_lots) := by
  obtain ⟨fd_is_group, ok_is_group, b_is_group⟩ := D_is_group
  obtain ⟨fd_is_within, ok_is_within, b_is_within⟩ := D_is_within
  obtain ⟨fdx_need_many, okx_need_many, bx_need_many⟩ := DX_need_many
  refine def_fnX (G := GX_need_lots) Fu sc_need_lots (fun _ _ _ _ _ _ S h => trimX_ok S h) (fun cdv A outer s H E hr tk => ?_)
  exact ⟨_, (pss_cons (ps_expr (pe_call okx_need_many (hr.mono (by decide)) rfl T.m_need_many T.k_need_many bx_need_many .nil (passes_call tk (fun _ _ _ _ h => h)) (pa_cons (pv 0) pa_nil))) (pss_cons (ps_if (PT.nox (PW.pt (pw_or (pt_not (pt_val (pe_callB call_isi (by rfl) T.b_isinstance (by decide +kernel) (pa_cons (pv 1) (pa_cons (pe_bltn (v := .ty "tuple") (by rfl) T.b_tuple (by decide +kernel) rfl) pa_nil))))) (pw_or (pt_cmpR (op_eqNil hr.units0) (pv 1) (pe_tup pa_nil) (nomark _)) (pw_or1 (pt_not (pt_val (pe_callB (cr_all rfl) (by rfl) T.b_all (by decide +kernel) (pa_cons (pe_lc (own := [("lot", 4)]) rfl sc_need_lots.nd (pi_seq (pv 1)) (blkOk_by (N := ["many", "lots", "one", "other", "lot"]) (sc := defScope st_need_lots) (by decide +kernel)) (fun _ _ _ _ _ => (pg_name (i := 4) sc_need_lots.nd rfl (Or.inl rfl))) (fun _ _ _ _ _ => pts_nil) (fun _ _ _ _ _ => (pe_call ok_is_group (hr.mono (by decide)) rfl T.m_is_group T.k_is_group b_is_group .nil pass0 (pa_cons (pv 0) (pa_cons (pv 4) pa_nil))))) pa_nil))))))))) (pss_one (ps_raiseX rfl tk PySem.F.excBase_ValueError T.v_BadLots.t T.m_BadLots rfl)) pss_nil) (pss_cons (ps_if (PT.nox (pt_not (pt_val (pe_callB (cr_all rfl) (by rfl) T.b_all (by decide +kernel) (pa_cons (pe_lc (own := [("one", 2), ("other", 3)]) rfl sc_need_lots.nd (RZ.pi_zipA (by rfl) T.b_zip (pa_cons (pv 1) (pa_cons (pe_slice sl_tupA (pv 1) (po_some pe_int) po_none) pa_nil))) (blkOk_by (N := ["many", "lots", "one", "other", "lot"]) (sc := defScope st_need_lots) (by decide +kernel)) (fun _ _ _ _ _ => (pg_tup rfl (pgs_cons (pg_name (i := 2) sc_need_lots.nd rfl (Or.inl rfl)) (pgs_cons (pg_name (i := 3) sc_need_lots.nd rfl (Or.inl rfl)) pgs_nil)))) (fun _ _ _ _ _ => pts_nil) (fun _ _ _ _ _ => (pe_cmpR (op_ltA hr.units0) (pv 2) (pv 3) (nomark _)))) pa_nil))))) (pss_one (ps_raiseX rfl tk PySem.F.excBase_ValueError T.v_BadLots.t T.m_BadLots rfl)) pss_nil) (pss_one (ps_if (PT.nox (pt_val (pe_callB (cr_any rfl) (by rfl) T.b_any (by decide +kernel) (pa_cons (pe_lc2 (own := [("one", 2), ("other", 3)]) (vs1 := [3]) rfl sc_need_lots.nd (pi_seq (pv 1)) (blkOk_by (N := ["many", "lots", "one", "other", "lot"]) (sc := defScope st_need_lots) (by decide +kernel)) (by decide) (fun _ _ _ _ _ => (pg_name (i := 2) sc_need_lots.nd rfl (Or.inl rfl))) (fun _ _ _ _ _ => pts_nil) (fun _ _ _ _ _ => (pi_seq (pv 1))) (fun _ _ _ _ _ => (pg_name (i := 3) sc_need_lots.nd rfl (Or.inl rfl))) (fun _ _ _ _ _ => pts_nil) (fun _ _ _ _ _ => (pe_and (pe_cmpR (op_neD hr.units) (pv 2) (pv 3) (nomark _)) (pe_one (pe_call ok_is_within (hr.mono (by decide)) rfl T.m_is_within T.k_is_within b_is_within .nil pass0 (pa_cons (pv 2) (pa_cons (pv 3) pa_nil))))))) pa_nil)))) (pss_one (ps_raiseX rfl tk PySem.F.excBase_ValueError T.v_BadLots.t T.m_BadLots rfl)) pss_nil))))),
    (ss_seq (ss_drop (sim_callX (sim_cons sim_var sim_nil) (cons_len nil_len))) (ss_seq (ss_if (sim_tOr (sim_tNot (sim_tB (sim_cb c_isi (sim_cons sim_var (sim_cons sim_ty sim_nil))))) (sim_tOr (sim_tTest (sim_nilT sim_var)) (sim_tNot (sim_tB (sim_cL l_all (sim_lc (sim_seq sim_var) g_name sim_tYes (sim_callNX (sim_cons sim_var (sim_cons sim_var sim_nil)) (cons_len (cons_len nil_len))))))))) (ss_raise gO.g_BadLots) ss_next) (ss_seq (ss_if (sim_tNot (sim_tB (sim_cL l_all (sim_lc (sim_zip (sim_cons sim_var (sim_cons (sim_slT sim_var (so_some sim_int) so_none) sim_nil))) (g_tup (g_cons g_name (g_cons g_name g_nil))) sim_tYes (sim_op s_lt sim_var sim_var))))) (ss_raise gO.g_BadLots) ss_next) (ss_if (sim_tB (sim_cL l_any (sim_lc2 (sim_seq sim_var) g_name sim_tYes (sim_seq sim_var) g_name sim_tYes (sim_andV (sim_op s_neD sim_var sim_var) (sim_callNX (sim_cons sim_var (sim_cons sim_var sim_nil)) (cons_len (cons_len nil_len))))))) (ss_raise gO.g_BadLots) ss_next))))⟩
abbrev st_need_group : Stmt := top 17
theorem sc_need_group : FnScope ["many", "group"] ["many", "group"] (defScope st_need_group) := ⟨rfl, rfl, rfl, by decide +kernel, rfl, by decide +kernel, by decide +kernel⟩
theorem ok_need_group {f : Addr} {fd : FuncData} (Fu : Fun K "need_group" "need_group" st_need_group f fd) (T : Txt K mg ad) (D_is_group : DefN P w K Γ mg base 3 ad.is_group ["many", "value"] F_is_group) : FnOk P w K mg base CX0 4 f fd ["many", "group"] (spN K Γ 2 F_need_group) := by
  obtain ⟨fd_is_group, ok_is_group, b_is_group⟩ := D_is_group
  refine def_fn (G := G_need_group) Fu sc_need_group (fun _ _ _ _ _ S h => trimP_ok S h) (fun cdv A outer s H E hr => ?_)
  exact ⟨_, (pss_one (ps_if (pt_not (pt_val (pe_call ok_is_group (hr.mono (by decide)) rfl T.m_is_group T.k_is_group b_is_group .nil pass0 (pa_cons (pv 0) (pa_cons (pv 1) pa_nil))))) (pss_one ps_never) pss_nil)),
    (ss_if (sim_tNot (sim_tB (sim_callN (sim_cons sim_var (sim_cons sim_var sim_nil)) (cons_len (cons_len nil_len))))) ss_never ss_next)⟩
theorem okx_need_group {f : Addr} {fd : FuncData} (Fu : Fun K "need_group" "need_group" st_need_group f fd) (T : Txt K mg ad) (gO : GOk Γ ad) (D_is_group : DefN P w K Γ mg base 3 ad.is_group ["many", "value"] F_is_group) : FnOk P w K mg base (L2.CX P w) 4 f fd ["many", "group"] (spX K Γ 2 X_need_group) := by
  obtain ⟨fd_is_group, ok_is_group, b_is_group⟩ := D_is_group
  refine def_fnX (G := GX_need_group) Fu sc_need_group (fun _ _ _ _ _ _ S h => trimX_ok S h) (fun cdv A outer s H E hr tk => ?_)
  exact ⟨_, (pss_one (ps_if (PT.nox (pt_not (pt_val (pe_call ok_is_group (hr.mono (by decide)) rfl T.m_is_group T.k_is_group b_is_group .nil pass0 (pa_cons (pv 0) (pa_cons (pv 1) pa_nil)))))) (pss_one (ps_raiseX rfl tk PySem.F.excBase_ValueError T.v_BadGroup.t T.m_BadGroup rfl)) pss_nil)),
    (ss_if (sim_tNot (sim_tB (sim_callNX (sim_cons sim_var (sim_cons sim_var sim_nil)) (cons_len (cons_len nil_len))))) (ss_raise gO.g_BadGroup) ss_next)⟩
abbrev st__law_ll_lots : Stmt := top 43
theorem sc__law_ll_lots : FnScope ["state", "many", "found", "way", "turn", "group", "one", "other"] ["state"] (defScope st__law_ll_lots) := ⟨rfl, rfl, rfl, by decide +kernel, rfl, by decide +kernel, by decide +kernel⟩
theorem ok__law_ll_lots {f : Addr} {fd : FuncData} (Fu : Fun K "_law_ll_lots" "_law_ll_lots" st__law_ll_lots f fd) (T : Txt K mg ad) (D__law_draw : DefN P w K Γ mg base 2 ad._law_draw ["state", "size_here"] F__law_draw) (D__law_mixed : DefN P w K Γ mg base 3 ad._law_mixed ["state", "several"] F__law_mixed) (D__law_ll_within : DefN P w K Γ mg base 1 ad._law_ll_within ["one", "other"] F__law_ll_within) : FnOk P w K mg base CX0 4 f fd ["state"] (spN K Γ 1 F__law_ll_lots) := by
  obtain ⟨fd__law_draw, ok__law_draw, b__law_draw⟩ := D__law_draw
  obtain ⟨fd__law_mixed, ok__law_mixed, b__law_mixed⟩ := D__law_mixed
  obtain ⟨fd__law_ll_within, ok__law_ll_within, b__law_ll_within⟩ := D__law_ll_within
  refine def_fn (G := G__law_ll_lots) Fu sc__law_ll_lots (fun _ _ _ _ _ S h => trimW_ok S h) (fun cdv A outer s H E hr => ?_)
  exact ⟨_, (pss_cons (ps_asg (pe_tup (pa_cons (pe_op op_addA pe_int (pe_call ok__law_draw (hr.mono (by decide)) rfl T.m__law_draw T.k__law_draw b__law_draw .nil pass0 (pa_cons (pv 0) (pa_cons pe_int pa_nil)))) (pa_cons (pe_lst pa_nil) pa_nil))) (pg_tup rfl (pgs_cons (pg_name (i := 1) sc__law_ll_lots.nd rfl (Or.inl rfl)) (pgs_cons (pg_name (i := 2) sc__law_ll_lots.nd rfl (Or.inr rfl)) pgs_nil)))) (pss_cons (ps_set (i := 3) sc__law_ll_lots.nd rfl (Or.inl rfl) (pe_call ok__law_draw (hr.mono (by decide)) rfl T.m__law_draw T.k__law_draw b__law_draw .nil pass0 (pa_cons (pv 0) (pa_cons pe_int pa_nil)))) (pss_cons (ps_for PassesOwn.never rfl (pi_range1 (by rfl) T.b_range (pa_cons (pe_op op_addA pe_int (pe_call ok__law_draw (hr.mono (by decide)) rfl T.m__law_draw T.k__law_draw b__law_draw .nil pass0 (pa_cons (pv 0) (pa_cons pe_int pa_nil)))) pa_nil)) (pg_name (i := 4) sc__law_ll_lots.nd rfl (Or.inl rfl)) (pss_cons (ps_set (i := 5) sc__law_ll_lots.nd rfl (Or.inl rfl) (pe_slice sl_list (pe_call ok__law_mixed (hr.mono (by decide)) rfl T.m__law_mixed T.k__law_mixed b__law_mixed .nil pass0 (pa_cons (pv 0) (pa_cons (pe_listRg (by rfl) (by rfl) T.b_list (prg_1 (by rfl) T.b_range (pv 1))) pa_nil))) po_none (po_some (pe_call ok__law_draw (hr.mono (by decide)) rfl T.m__law_draw T.k__law_draw b__law_draw .nil pass0 (pa_cons (pv 0) (pa_cons (pe_ifExp (pt_cmpR op_gt (pv 3) pe_int (nomark _)) (pe_op op_fdiv (pe_op op_addA (pv 1) pe_int) pe_int) (pe_op op_addA (pv 1) pe_int)) pa_nil)))))) (pss_one (ps_expr (pe_bm PySem.F.plainAttrs_list PySem.F.slot_list_append PySem.F.type_list_append mt_append (pv 2) (pa_cons (pe_callTy call_tuple_of (by rfl) T.b_tuple (by decide +kernel) (pa_cons (pe_callB cr_sortedI (by rfl) T.b_sorted (by decide +kernel) (pa_cons (pv 5) pa_nil)) pa_nil)) pa_nil)))))) (pss_one (ps_ret (pe_tup (pa_cons (pv 1) (pa_cons (pe_callTy call_tuple_of (by rfl) T.b_tuple (by decide +kernel) (pa_cons (pe_callB (cr_sortedTU (by rfl) (hu64 hr)) (by rfl) T.b_sorted (by decide +kernel) (pa_cons (pe_callTy (cr_setT (by rfl) (hu64 hr)) (by rfl) T.b_set (by decide +kernel) (pa_cons (pe_lc (own := [("one", 6)]) rfl sc__law_ll_lots.nd (pi_seq (pv 2)) (blkOk_by (N := ["state", "many", "found", "way", "turn", "group", "one", "other"]) (sc := defScope st__law_ll_lots) (by decide +kernel)) (fun _ _ _ _ _ => (pg_name (i := 6) sc__law_ll_lots.nd rfl (Or.inr rfl))) (fun _ _ _ _ _ => (pts_one (pt_cmpR (op_eqNil hr.units0) (pe_lc (own := [("other", 7)]) rfl sc__law_ll_lots.nd (pi_seq (pv 2)) (by refine (show BlkOk _ (relS _ (defScope st__law_ll_lots)) _ _ from ?_); exact blkOk_by (N := ["state", "many", "found", "way", "turn", "group", "one", "other"]) (by decide +kernel)) (fun _ _ _ _ _ => (pg_name (i := 7) sc__law_ll_lots.nd rfl (Or.inl rfl))) (fun _ _ _ _ _ => (pts_one (PW.pt (pw_and (pt_cmpR (op_neD hr.units) (pv 7) (pv 6) (nomark _)) (pw_and1 (pt_val (pe_call ok__law_ll_within (hr.mono (by decide)) rfl T.m__law_ll_within T.k__law_ll_within b__law_ll_within .nil pass0 (pa_cons (pv 6) (pa_cons (pv 7) pa_nil))))))))) (fun _ _ _ _ _ => pe_int)) (pe_lst pa_nil) (nomark _)))) (fun _ _ _ _ _ => (pv 6))) pa_nil)) pa_nil)) pa_nil)) pa_nil)))))))),
    (ss_seq (ss_asg (sim_tup (sim_cons (sim_op s_add sim_int (sim_callN (sim_cons sim_var (sim_cons sim_int sim_nil)) (cons_len (cons_len nil_len)))) (sim_cons (sim_alloc (sim_lst sim_nil)) sim_nil))) (g_tup (g_cons g_name (g_cons g_name g_nil)))) (ss_seq (ss_asg (sim_callN (sim_cons sim_var (sim_cons sim_int sim_nil)) (cons_len (cons_len nil_len))) g_name) (ss_seq (ss_for (sim_rng1 (sim_cons (sim_op s_add sim_int (sim_callN (sim_cons sim_var (sim_cons sim_int sim_nil)) (cons_len (cons_len nil_len)))) sim_nil)) g_name (ss_seq (ss_asg (sim_alloc (sim_slL (sim_callN (sim_cons sim_var (sim_cons (sim_alloc (sim_lstRg (sr_rg1 sim_var))) sim_nil)) (cons_len (cons_len nil_len))) so_none (so_some (sim_callN (sim_cons sim_var (sim_cons (sim_if (sim_tTest (sim_op s_gt sim_var sim_int)) (sim_op s_fdiv (sim_op s_add sim_var sim_int) sim_int) (sim_op s_add sim_var sim_int)) sim_nil)) (cons_len (cons_len nil_len)))))) g_name) (ss_drop (sim_app sim_var (sim_cL l_tup (sim_cVL l_sortI sim_var)))))) (ss_ret (sim_tup (sim_cons sim_var (sim_cons (sim_cL l_tup (sim_ssT (sim_lc (sim_seq sim_var) g_name (sim_tTest (sim_nilL (sim_lc (sim_seq sim_var) g_name (sim_tAnd (sim_tTest (sim_op s_neD sim_var sim_var)) (sim_tB (sim_callN (sim_cons sim_var (sim_cons sim_var sim_nil)) (cons_len (cons_len nil_len))))) sim_int))) sim_var))) sim_nil)))))))⟩
abbrev st__law_k23_bad : Stmt := top 50
theorem sc__law_k23_bad : FnScope ["state", "many", "some"] ["state", "many"] (defScope st__law_k23_bad) := ⟨rfl, rfl, rfl, by decide +kernel, rfl, by decide +kernel, by decide +kernel⟩
theorem ok__law_k23_bad {f : Addr} {fd : FuncData} (Fu : Fun K "_law_k23_bad" "_law_k23_bad" st__law_k23_bad f fd) (T : Txt K mg ad) (D__law_pick : DefN P w K Γ mg base 3 ad._law_pick ["state", "several"] F__law_pick) : FnOk P w K mg base CX0 4 f fd ["state", "many"] (spN K Γ 2 F__law_k23_bad) := by
  obtain ⟨fd__law_pick, ok__law_pick, b__law_pick⟩ := D__law_pick
  refine def_fn (G := G__law_k23_bad) Fu sc__law_k23_bad (fun _ _ _ _ _ _ h => h) (fun cdv A outer s H E hr => ?_)
  exact ⟨_, (pss_cons (ps_set (i := 2) sc__law_k23_bad.nd rfl (Or.inl rfl) (pe_lst (pa_cons pe_non (pa_cons (pe_tup pa_nil) (pa_cons (pe_lst (pa_cons (pe_tup pa_nil) pa_nil)) (pa_cons (pe_tup (pa_cons (pe_tup (pa_cons pe_int (pa_cons pe_int pa_nil))) pa_nil)) (pa_cons (pe_tup (pa_cons (pe_tup (pa_cons (pv 1) pa_nil)) pa_nil)) (pa_cons (pe_tup (pa_cons (pe_tup (pa_cons pe_bl pa_nil)) pa_nil)) (pa_cons (pe_tup (pa_cons (pe_tup pa_nil) (pa_cons (pe_tup (pa_cons pe_int pa_nil)) pa_nil))) (pa_cons (pe_tup (pa_cons (pe_tup (pa_cons pe_int pa_nil)) (pa_cons (pe_tup (pa_cons pe_int pa_nil)) pa_nil))) (pa_cons (pe_tup (pa_cons (pe_tup (pa_cons (pe_un un_neg pe_int) pa_nil)) pa_nil)) (pa_cons (pe_tup (pa_cons pe_int pa_nil)) (pa_cons (pe_tup (pa_cons pe_non pa_nil)) (pa_cons pe_str pa_nil)))))))))))))) (pss_one (ps_ret (pe_call ok__law_pick (hr.mono (by decide)) rfl T.m__law_pick T.k__law_pick b__law_pick .nil pass0 (pa_cons (pv 0) (pa_cons (pe_op op_cat (pv 2) (pe_ifExp (pt_cmpR op_gt (pv 1) pe_int (nomark _)) (pe_lst (pa_cons (pe_tup (pa_cons (pe_tup (pa_cons pe_int pa_nil)) (pa_cons (pe_tup (pa_cons pe_int pa_nil)) pa_nil))) (pa_cons (pe_tup (pa_cons (pe_tup (pa_cons pe_int (pa_cons pe_int pa_nil))) pa_nil)) (pa_cons (pe_tup (pa_cons (pe_tup (pa_cons pe_int pa_nil)) (pa_cons (pe_tup (pa_cons pe_int (pa_cons pe_int pa_nil))) pa_nil))) pa_nil)))) (pe_lst pa_nil))) pa_nil)))))),
    (ss_seq (ss_asg (sim_alloc (sim_lst (sim_cons sim_non (sim_cons (sim_tup sim_nil) (sim_cons (sim_alloc (sim_lst (sim_cons (sim_tup sim_nil) sim_nil))) (sim_cons (sim_tup (sim_cons (sim_tup (sim_cons sim_int (sim_cons sim_int sim_nil))) sim_nil)) (sim_cons (sim_tup (sim_cons (sim_tup (sim_cons sim_var sim_nil)) sim_nil)) (sim_cons (sim_tup (sim_cons (sim_tup (sim_cons sim_bl sim_nil)) sim_nil)) (sim_cons (sim_tup (sim_cons (sim_tup sim_nil) (sim_cons (sim_tup (sim_cons sim_int sim_nil)) sim_nil))) (sim_cons (sim_tup (sim_cons (sim_tup (sim_cons sim_int sim_nil)) (sim_cons (sim_tup (sim_cons sim_int sim_nil)) sim_nil))) (sim_cons (sim_tup (sim_cons (sim_tup (sim_cons (sim_un s_neg sim_int) sim_nil)) sim_nil)) (sim_cons (sim_tup (sim_cons sim_int sim_nil)) (sim_cons (sim_tup (sim_cons sim_non sim_nil)) (sim_cons sim_str sim_nil)))))))))))))) g_name) (ss_ret (sim_callN (sim_cons sim_var (sim_cons (sim_alloc (sim_cat sim_var (sim_ifL (sim_tTest (sim_op s_gt sim_var sim_int)) (sim_lst (sim_cons (sim_tup (sim_cons (sim_tup (sim_cons sim_int sim_nil)) (sim_cons (sim_tup (sim_cons sim_int sim_nil)) sim_nil))) (sim_cons (sim_tup (sim_cons (sim_tup (sim_cons sim_int (sim_cons sim_int sim_nil))) sim_nil)) (sim_cons (sim_tup (sim_cons (sim_tup (sim_cons sim_int sim_nil)) (sim_cons (sim_tup (sim_cons sim_int (sim_cons sim_int sim_nil))) sim_nil))) sim_nil)))) (sim_lst sim_nil)))) sim_nil)) (cons_len (cons_len nil_len)))))⟩
abbrev st_may_lie : Stmt := top 21
theorem sc_may_lie : FnScope ["many", "lots", "group"] ["many", "lots", "group"] (defScope st_may_lie) := ⟨rfl, rfl, rfl, by decide +kernel, rfl, by decide +kernel, by decide +kernel⟩
theorem ok_may_lie {f : Addr} {fd : FuncData} (Fu : Fun K "may_lie" "may_lie" st_may_lie f fd) (T : Txt K mg ad) (D_need_lots : DefN P w K Γ mg base 4 ad.need_lots ["many", "lots"] F_need_lots) (D_need_group : DefN P w K Γ mg base 4 ad.need_group ["many", "group"] F_need_group) (D_may_all_lie : DefN P w K Γ mg base 2 ad.may_all_lie ["lots", "group"] F_may_all_lie) : FnOk P w K mg base CX0 5 f fd ["many", "lots", "group"] (spN K Γ 3 F_may_lie) := by
  obtain ⟨fd_need_lots, ok_need_lots, b_need_lots⟩ := D_need_lots
  obtain ⟨fd_need_group, ok_need_group, b_need_group⟩ := D_need_group
  obtain ⟨fd_may_all_lie, ok_may_all_lie, b_may_all_lie⟩ := D_may_all_lie
  refine def_fn (G := G_may_lie) Fu sc_may_lie (fun _ _ _ _ _ S h => trimP_ok S h) (fun cdv A outer s H E hr => ?_)
  exact ⟨_, (pss_cons (ps_expr (pe_call ok_need_lots (hr.mono (by decide)) rfl T.m_need_lots T.k_need_lots b_need_lots .nil pass0 (pa_cons (pv 0) (pa_cons (pv 1) pa_nil)))) (pss_cons (ps_expr (pe_call ok_need_group (hr.mono (by decide)) rfl T.m_need_group T.k_need_group b_need_group .nil pass0 (pa_cons (pv 0) (pa_cons (pv 2) pa_nil)))) (pss_one (ps_ret (pe_call ok_may_all_lie (hr.mono (by decide)) rfl T.m_may_all_lie T.k_may_all_lie b_may_all_lie .nil pass0 (pa_cons (pv 1) (pa_cons (pv 2) pa_nil))))))),
    (ss_seq (ss_drop (sim_callN (sim_cons sim_var (sim_cons sim_var sim_nil)) (cons_len (cons_len nil_len)))) (ss_seq (ss_drop (sim_callN (sim_cons sim_var (sim_cons sim_var sim_nil)) (cons_len (cons_len nil_len)))) (ss_ret (sim_callN (sim_cons sim_var (sim_cons sim_var sim_nil)) (cons_len (cons_len nil_len))))))⟩
theorem okx_may_lie {f : Addr} {fd : FuncData} (Fu : Fun K "may_lie" "may_lie" st_may_lie f fd) (T : Txt K mg ad) (gO : GOk Γ ad) (DX_need_lots : DefX P w K Γ mg base 4 ad.need_lots ["many", "lots"] X_need_lots) (DX_need_group : DefX P w K Γ mg base 4 ad.need_group ["many", "group"] X_need_group) : FnOk P w K mg base (L2.CX P w) 5 f fd ["many", "lots", "group"] (spX K Γ 3 X_may_lie) := by
  obtain ⟨fdx_need_lots, okx_need_lots, bx_need_lots⟩ := DX_need_lots
  obtain ⟨fdx_need_group, okx_need_group, bx_need_group⟩ := DX_need_group
  refine def_fnX (G := GX_may_lie) Fu sc_may_lie (fun _ _ _ _ _ _ S h => trimX_ok S h) (fun cdv A outer s H E hr tk => ?_)
  exact ⟨_, (pss_cons (ps_expr (pe_call okx_need_lots (hr.mono (by decide)) rfl T.m_need_lots T.k_need_lots bx_need_lots .nil (passes_call tk (fun _ _ _ _ h => h)) (pa_cons (pv 0) (pa_cons (pv 1) pa_nil)))) (pss_cons (ps_expr (pe_call okx_need_group (hr.mono (by decide)) rfl T.m_need_group T.k_need_group bx_need_group .nil (passes_call tk (fun _ _ _ _ h => h)) (pa_cons (pv 0) (pa_cons (pv 2) pa_nil)))) pss_never)),
    (ss_seq (ss_drop (sim_callX (sim_cons sim_var (sim_cons sim_var sim_nil)) (cons_len (cons_len nil_len)))) (ss_seq (ss_drop (sim_callX (sim_cons sim_var (sim_cons sim_var sim_nil)) (cons_len (cons_len nil_len)))) ss_never))⟩
abbrev st_is_enough : Stmt := top 22
theorem sc_is_enough : FnScope ["many", "lots", "group"] ["many", "lots", "group"] (defScope st_is_enough) := ⟨rfl, rfl, rfl, by decide +kernel, rfl, by decide +kernel, by decide +kernel⟩
theorem ok_is_enough {f : Addr} {fd : FuncData} (Fu : Fun K "is_enough" "is_enough" st_is_enough f fd) (T : Txt K mg ad) (D_need_lots : DefN P w K Γ mg base 4 ad.need_lots ["many", "lots"] F_need_lots) (D_need_group : DefN P w K Γ mg base 4 ad.need_group ["many", "group"] F_need_group) (D_may_all_lie : DefN P w K Γ mg base 2 ad.may_all_lie ["lots", "group"] F_may_all_lie) (D_others_of : DefN P w K Γ mg base 1 ad.others_of ["many", "group"] F_others_of) : FnOk P w K mg base CX0 5 f fd ["many", "lots", "group"] (spN K Γ 3 F_is_enough) := by
  obtain ⟨fd_need_lots, ok_need_lots, b_need_lots⟩ := D_need_lots
  obtain ⟨fd_need_group, ok_need_group, b_need_group⟩ := D_need_group
  obtain ⟨fd_may_all_lie, ok_may_all_lie, b_may_all_lie⟩ := D_may_all_lie
  obtain ⟨fd_others_of, ok_others_of, b_others_of⟩ := D_others_of
  refine def_fn (G := G_is_enough) Fu sc_is_enough (fun _ _ _ _ _ S h => trimP_ok S h) (fun cdv A outer s H E hr => ?_)
  exact ⟨_, (pss_cons (ps_expr (pe_call ok_need_lots (hr.mono (by decide)) rfl T.m_need_lots T.k_need_lots b_need_lots .nil pass0 (pa_cons (pv 0) (pa_cons (pv 1) pa_nil)))) (pss_cons (ps_expr (pe_call ok_need_group (hr.mono (by decide)) rfl T.m_need_group T.k_need_group b_need_group .nil pass0 (pa_cons (pv 0) (pa_cons (pv 2) pa_nil)))) (pss_one (ps_ret (pe_call ok_may_all_lie (hr.mono (by decide)) rfl T.m_may_all_lie T.k_may_all_lie b_may_all_lie .nil pass0 (pa_cons (pv 1) (pa_cons (pe_call ok_others_of (hr.mono (by decide)) rfl T.m_others_of T.k_others_of b_others_of .nil pass0 (pa_cons (pv 0) (pa_cons (pv 2) pa_nil))) pa_nil))))))),
    (ss_seq (ss_drop (sim_callN (sim_cons sim_var (sim_cons sim_var sim_nil)) (cons_len (cons_len nil_len)))) (ss_seq (ss_drop (sim_callN (sim_cons sim_var (sim_cons sim_var sim_nil)) (cons_len (cons_len nil_len)))) (ss_ret (sim_callN (sim_cons sim_var (sim_cons (sim_callN (sim_cons sim_var (sim_cons sim_var sim_nil)) (cons_len (cons_len nil_len))) sim_nil)) (cons_len (cons_len nil_len))))))⟩
theorem okx_is_enough {f : Addr} {fd : FuncData} (Fu : Fun K "is_enough" "is_enough" st_is_enough f fd) (T : Txt K mg ad) (gO : GOk Γ ad) (DX_need_lots : DefX P w K Γ mg base 4 ad.need_lots ["many", "lots"] X_need_lots) (DX_need_group : DefX P w K Γ mg base 4 ad.need_group ["many", "group"] X_need_group) : FnOk P w K mg base (L2.CX P w) 5 f fd ["many", "lots", "group"] (spX K Γ 3 X_is_enough) := by
  obtain ⟨fdx_need_lots, okx_need_lots, bx_need_lots⟩ := DX_need_lots
  obtain ⟨fdx_need_group, okx_need_group, bx_need_group⟩ := DX_need_group
  refine def_fnX (G := GX_is_enough) Fu sc_is_enough (fun _ _ _ _ _ _ S h => trimX_ok S h) (fun cdv A outer s H E hr tk => ?_)
  exact ⟨_, (pss_cons (ps_expr (pe_call okx_need_lots (hr.mono (by decide)) rfl T.m_need_lots T.k_need_lots bx_need_lots .nil (passes_call tk (fun _ _ _ _ h => h)) (pa_cons (pv 0) (pa_cons (pv 1) pa_nil)))) (pss_cons (ps_expr (pe_call okx_need_group (hr.mono (by decide)) rfl T.m_need_group T.k_need_group bx_need_group .nil (passes_call tk (fun _ _ _ _ h => h)) (pa_cons (pv 0) (pa_cons (pv 2) pa_nil)))) pss_never)),
    (ss_seq (ss_drop (sim_callX (sim_cons sim_var (sim_cons sim_var sim_nil)) (cons_len (cons_len nil_len)))) (ss_seq (ss_drop (sim_callX (sim_cons sim_var (sim_cons sim_var sim_nil)) (cons_len (cons_len nil_len)))) ss_never))⟩
abbrev st_three_lots : Stmt := top 25
theorem sc_three_lots : FnScope ["many", "lots"] ["many", "lots"] (defScope st_three_lots) := ⟨rfl, rfl, rfl, by decide +kernel, rfl, by decide +kernel, by decide +kernel⟩
theorem ok_three_lots {f : Addr} {fd : FuncData} (Fu : Fun K "three_lots" "three_lots" st_three_lots f fd) (T : Txt K mg ad) (D_need_lots : DefN P w K Γ mg base 4 ad.need_lots ["many", "lots"] F_need_lots) (D_three_by : DefN P w K Γ mg base 2 ad.three_by ["many", "lots"] F_three_by) : FnOk P w K mg base CX0 5 f fd ["many", "lots"] (spN K Γ 2 F_three_lots) := by
  obtain ⟨fd_need_lots, ok_need_lots, b_need_lots⟩ := D_need_lots
  obtain ⟨fd_three_by, ok_three_by, b_three_by⟩ := D_three_by
  refine def_fn (G := G_three_lots) Fu sc_three_lots (fun _ _ _ _ _ S h => trimP_ok S h) (fun cdv A outer s H E hr => ?_)
  exact ⟨_, (pss_cons (ps_expr (pe_call ok_need_lots (hr.mono (by decide)) rfl T.m_need_lots T.k_need_lots b_need_lots .nil pass0 (pa_cons (pv 0) (pa_cons (pv 1) pa_nil)))) (pss_one (ps_ret (pe_call ok_three_by (hr.mono (by decide)) rfl T.m_three_by T.k_three_by b_three_by .nil pass0 (pa_cons (pv 0) (pa_cons (pv 1) pa_nil)))))),
    (ss_seq (ss_drop (sim_callN (sim_cons sim_var (sim_cons sim_var sim_nil)) (cons_len (cons_len nil_len)))) (ss_ret (sim_callN (sim_cons sim_var (sim_cons sim_var sim_nil)) (cons_len (cons_len nil_len)))))⟩
theorem okx_three_lots {f : Addr} {fd : FuncData} (Fu : Fun K "three_lots" "three_lots" st_three_lots f fd) (T : Txt K mg ad) (gO : GOk Γ ad) (DX_need_lots : DefX P w K Γ mg base 4 ad.need_lots ["many", "lots"] X_need_lots) : FnOk P w K mg base (L2.CX P w) 5 f fd ["many", "lots"] (spX K Γ 2 X_three_lots) := by
  obtain ⟨fdx_need_lots, okx_need_lots, bx_need_lots⟩ := DX_need_lots
  refine def_fnX (G := GX_three_lots) Fu sc_three_lots (fun _ _ _ _ _ _ S h => trimX_ok S h) (fun cdv A outer s H E hr tk => ?_)
  exact ⟨_, (pss_cons (ps_expr (pe_call okx_need_lots (hr.mono (by decide)) rfl T.m_need_lots T.k_need_lots bx_need_lots .nil (passes_call tk (fun _ _ _ _ h => h)) (pa_cons (pv 0) (pa_cons (pv 1) pa_nil)))) pss_never),
    (ss_seq (ss_drop (sim_callX (sim_cons sim_var (sim_cons sim_var sim_nil)) (cons_len (cons_len nil_len)))) ss_never)⟩
abbrev st_is_binding : Stmt := top 26
theorem sc_is_binding : FnScope ["many", "lots", "group", "others", "three"] ["many", "lots", "group"] (defScope st_is_binding) := ⟨rfl, rfl, rfl, by decide +kernel, rfl, by decide +kernel, by decide +kernel⟩
theorem ok_is_binding {f : Addr} {fd : FuncData} (Fu : Fun K "is_binding" "is_binding" st_is_binding f fd) (T : Txt K mg ad) (D_need_lots : DefN P w K Γ mg base 4 ad.need_lots ["many", "lots"] F_need_lots) (D_need_group : DefN P w K Γ mg base 4 ad.need_group ["many", "group"] F_need_group) (D_others_of : DefN P w K Γ mg base 1 ad.others_of ["many", "group"] F_others_of) (D_triples_of : DefN P w K Γ mg base 1 ad.triples_of ["lots"] F_triples_of) (D_is_within : DefN P w K Γ mg base 1 ad.is_within ["one", "other"] F_is_within) (D_all_of : DefN P w K Γ mg base 1 ad.all_of ["groups"] F_all_of) : FnOk P w K mg base CX0 5 f fd ["many", "lots", "group"] (spN K Γ 3 F_is_binding) := by
  obtain ⟨fd_need_lots, ok_need_lots, b_need_lots⟩ := D_need_lots
  obtain ⟨fd_need_group, ok_need_group, b_need_group⟩ := D_need_group
  obtain ⟨fd_others_of, ok_others_of, b_others_of⟩ := D_others_of
  obtain ⟨fd_triples_of, ok_triples_of, b_triples_of⟩ := D_triples_of
  obtain ⟨fd_is_within, ok_is_within, b_is_within⟩ := D_is_within
  obtain ⟨fd_all_of, ok_all_of, b_all_of⟩ := D_all_of
  refine def_fn (G := G_is_binding) Fu sc_is_binding (fun _ _ _ _ _ S h => trimP_ok S h) (fun cdv A outer s H E hr => ?_)
  exact ⟨_, (pss_cons (ps_expr (pe_call ok_need_lots (hr.mono (by decide)) rfl T.m_need_lots T.k_need_lots b_need_lots .nil pass0 (pa_cons (pv 0) (pa_cons (pv 1) pa_nil)))) (pss_cons (ps_expr (pe_call ok_need_group (hr.mono (by decide)) rfl T.m_need_group T.k_need_group b_need_group .nil pass0 (pa_cons (pv 0) (pa_cons (pv 2) pa_nil)))) (pss_cons (ps_set (i := 3) sc_is_binding.nd rfl (Or.inr rfl) (pe_call ok_others_of (hr.mono (by decide)) rfl T.m_others_of T.k_others_of b_others_of .nil pass0 (pa_cons (pv 0) (pa_cons (pv 2) pa_nil)))) (pss_one (ps_ret (pe_callB (cr_any rfl) (by rfl) T.b_any (by decide +kernel) (pa_cons (pe_lc (own := [("three", 4)]) rfl sc_is_binding.nd (pi_seq (pe_call ok_triples_of (hr.mono (by decide)) rfl T.m_triples_of T.k_triples_of b_triples_of .nil pass0 (pa_cons (pv 1) pa_nil))) (blkOk_by (N := ["many", "lots", "group", "others", "three"]) (sc := defScope st_is_binding) (by decide +kernel)) (fun _ _ _ _ _ => (pg_name (i := 4) sc_is_binding.nd rfl (Or.inl rfl))) (fun _ _ _ _ _ => pts_nil) (fun _ _ _ _ _ => (pe_call ok_is_within (hr.mono (by decide)) rfl T.m_is_within T.k_is_within b_is_within .nil pass0 (pa_cons (pv 3) (pa_cons (pe_call ok_all_of (hr.mono (by decide)) rfl T.m_all_of T.k_all_of b_all_of .nil pass0 (pa_cons (pv 4) pa_nil)) pa_nil))))) pa_nil))))))),
    (ss_seq (ss_drop (sim_callN (sim_cons sim_var (sim_cons sim_var sim_nil)) (cons_len (cons_len nil_len)))) (ss_seq (ss_drop (sim_callN (sim_cons sim_var (sim_cons sim_var sim_nil)) (cons_len (cons_len nil_len)))) (ss_seq (ss_asg (sim_callN (sim_cons sim_var (sim_cons sim_var sim_nil)) (cons_len (cons_len nil_len))) g_name) (ss_ret (sim_cL l_any (sim_lc (sim_seq (sim_callN (sim_cons sim_var sim_nil) (cons_len nil_len))) g_name sim_tYes (sim_callN (sim_cons sim_var (sim_cons (sim_callN (sim_cons sim_var sim_nil) (cons_len nil_len)) sim_nil)) (cons_len (cons_len nil_len)))))))))⟩
theorem okx_is_binding {f : Addr} {fd : FuncData} (Fu : Fun K "is_binding" "is_binding" st_is_binding f fd) (T : Txt K mg ad) (gO : GOk Γ ad) (DX_need_lots : DefX P w K Γ mg base 4 ad.need_lots ["many", "lots"] X_need_lots) (DX_need_group : DefX P w K Γ mg base 4 ad.need_group ["many", "group"] X_need_group) : FnOk P w K mg base (L2.CX P w) 5 f fd ["many", "lots", "group"] (spX K Γ 3 X_is_binding) := by
  obtain ⟨fdx_need_lots, okx_need_lots, bx_need_lots⟩ := DX_need_lots
  obtain ⟨fdx_need_group, okx_need_group, bx_need_group⟩ := DX_need_group
  refine def_fnX (G := GX_is_binding) Fu sc_is_binding (fun _ _ _ _ _ _ S h => trimX_ok S h) (fun cdv A outer s H E hr tk => ?_)
  exact ⟨_, (pss_cons (ps_expr (pe_call okx_need_lots (hr.mono (by decide)) rfl T.m_need_lots T.k_need_lots bx_need_lots .nil (passes_call tk (fun _ _ _ _ h => h)) (pa_cons (pv 0) (pa_cons (pv 1) pa_nil)))) (pss_cons (ps_expr (pe_call okx_need_group (hr.mono (by decide)) rfl T.m_need_group T.k_need_group bx_need_group .nil (passes_call tk (fun _ _ _ _ h => h)) (pa_cons (pv 0) (pa_cons (pv 2) pa_nil)))) pss_never)),
    (ss_seq (ss_drop (sim_callX (sim_cons sim_var (sim_cons sim_var sim_nil)) (cons_len (cons_len nil_len)))) (ss_seq (ss_drop (sim_callX (sim_cons sim_var (sim_cons sim_var sim_nil)) (cons_len (cons_len nil_len)))) ss_never))⟩
abbrev st_crossing_votes : Stmt := top 27
theorem sc_crossing_votes : FnScope ["many", "lots", "found"] ["many", "lots"] (defScope st_crossing_votes) := ⟨rfl, rfl, rfl, by decide +kernel, rfl, by decide +kernel, by decide +kernel⟩
theorem ok_crossing_votes {f : Addr} {fd : FuncData} (Fu : Fun K "crossing_votes" "crossing_votes" st_crossing_votes f fd) (T : Txt K mg ad) (D_need_lots : DefN P w K Γ mg base 4 ad.need_lots ["many", "lots"] F_need_lots) (D_three_by : DefN P w K Γ mg base 2 ad.three_by ["many", "lots"] F_three_by) (D_others_of : DefN P w K Γ mg base 1 ad.others_of ["many", "group"] F_others_of) : FnOk P w K mg base CX0 5 f fd ["many", "lots"] (spN K Γ 2 F_crossing_votes) := by
  obtain ⟨fd_need_lots, ok_need_lots, b_need_lots⟩ := D_need_lots
  obtain ⟨fd_three_by, ok_three_by, b_three_by⟩ := D_three_by
  obtain ⟨fd_others_of, ok_others_of, b_others_of⟩ := D_others_of
  refine def_fn (G := G_crossing_votes) Fu sc_crossing_votes (fun _ _ _ _ _ S h => trimP_ok S h) (fun cdv A outer s H E hr => ?_)
  exact ⟨_, (pss_cons (ps_expr (pe_call ok_need_lots (hr.mono (by decide)) rfl T.m_need_lots T.k_need_lots b_need_lots .nil pass0 (pa_cons (pv 0) (pa_cons (pv 1) pa_nil)))) (pss_cons (ps_set (i := 2) sc_crossing_votes.nd rfl (Or.inl rfl) (pe_call ok_three_by (hr.mono (by decide)) rfl T.m_three_by T.k_three_by b_three_by .nil pass0 (pa_cons (pv 0) (pa_cons (pv 1) pa_nil)))) (pss_cons (ps_if (pt_cmpR op_isN (pv 2) pe_non (nomark _)) (pss_one (ps_ret pe_non)) pss_nil) (pss_one (ps_ret (pe_tup (pa_cons (pe_call ok_others_of (hr.mono (by decide)) rfl T.m_others_of T.k_others_of b_others_of .nil pass0 (pa_cons (pv 0) (pa_cons (pe_ix ix_any (pv 2) pe_int (fun _ _ => rfl)) pa_nil))) (pa_cons (pe_call ok_others_of (hr.mono (by decide)) rfl T.m_others_of T.k_others_of b_others_of .nil pass0 (pa_cons (pv 0) (pa_cons (pe_ix ix_any (pv 2) pe_int (fun _ _ => rfl)) pa_nil))) (pa_cons (pe_ix ix_any (pv 2) pe_int (fun _ _ => rfl)) pa_nil))))))))),
    (ss_seq (ss_drop (sim_callN (sim_cons sim_var (sim_cons sim_var sim_nil)) (cons_len (cons_len nil_len)))) (ss_seq (ss_asg (sim_callN (sim_cons sim_var (sim_cons sim_var sim_nil)) (cons_len (cons_len nil_len))) g_name) (ss_seq (ss_if (sim_tTest (sim_op s_isN sim_var sim_non)) (ss_ret sim_non) ss_next) (ss_ret (sim_tup (sim_cons (sim_callN (sim_cons sim_var (sim_cons (sim_op s_ix sim_var sim_int) sim_nil)) (cons_len (cons_len nil_len))) (sim_cons (sim_callN (sim_cons sim_var (sim_cons (sim_op s_ix sim_var sim_int) sim_nil)) (cons_len (cons_len nil_len))) (sim_cons (sim_op s_ix sim_var sim_int) sim_nil))))))))⟩
theorem okx_crossing_votes {f : Addr} {fd : FuncData} (Fu : Fun K "crossing_votes" "crossing_votes" st_crossing_votes f fd) (T : Txt K mg ad) (gO : GOk Γ ad) (DX_need_lots : DefX P w K Γ mg base 4 ad.need_lots ["many", "lots"] X_need_lots) : FnOk P w K mg base (L2.CX P w) 5 f fd ["many", "lots"] (spX K Γ 2 X_crossing_votes) := by
  obtain ⟨fdx_need_lots, okx_need_lots, bx_need_lots⟩ := DX_need_lots
  refine def_fnX (G := GX_crossing_votes) Fu sc_crossing_votes (fun _ _ _ _ _ _ S h => trimX_ok S h) (fun cdv A outer s H E hr tk => ?_)
  exact ⟨_, (pss_cons (ps_expr (pe_call okx_need_lots (hr.mono (by decide)) rfl T.m_need_lots T.k_need_lots bx_need_lots .nil (passes_call tk (fun _ _ _ _ h => h)) (pa_cons (pv 0) (pa_cons (pv 1) pa_nil)))) pss_never),
    (ss_seq (ss_drop (sim_callX (sim_cons sim_var (sim_cons sim_var sim_nil)) (cons_len (cons_len nil_len)))) ss_never)⟩
abbrev st_is_crossing_votes : Stmt := top 29
theorem sc_is_crossing_votes : FnScope ["many", "lots", "value", "group"] ["many", "lots", "value"] (defScope st_is_crossing_votes) := ⟨rfl, rfl, rfl, by decide +kernel, rfl, by decide +kernel, by decide +kernel⟩
theorem ok_is_crossing_votes {f : Addr} {fd : FuncData} (Fu : Fun K "is_crossing_votes" "is_crossing_votes" st_is_crossing_votes f fd) (T : Txt K mg ad) (D_need_lots : DefN P w K Γ mg base 4 ad.need_lots ["many", "lots"] F_need_lots) (D_is_group : DefN P w K Γ mg base 3 ad.is_group ["many", "value"] F_is_group) (D_may_all_lie : DefN P w K Γ mg base 2 ad.may_all_lie ["lots", "group"] F_may_all_lie) (D_others_of : DefN P w K Γ mg base 1 ad.others_of ["many", "group"] F_others_of) (D_is_within : DefN P w K Γ mg base 1 ad.is_within ["one", "other"] F_is_within) (D_meeting : DefN P w K Γ mg base 1 ad.meeting ["one", "other"] F_meeting) : FnOk P w K mg base CX0 5 f fd ["many", "lots", "value"] (spN K Γ 3 F_is_crossing_votes) := by
  obtain ⟨fd_need_lots, ok_need_lots, b_need_lots⟩ := D_need_lots
  obtain ⟨fd_is_group, ok_is_group, b_is_group⟩ := D_is_group
  obtain ⟨fd_may_all_lie, ok_may_all_lie, b_may_all_lie⟩ := D_may_all_lie
  obtain ⟨fd_others_of, ok_others_of, b_others_of⟩ := D_others_of
  obtain ⟨fd_is_within, ok_is_within, b_is_within⟩ := D_is_within
  obtain ⟨fd_meeting, ok_meeting, b_meeting⟩ := D_meeting
  refine def_fn (G := G_is_crossing_votes) Fu sc_is_crossing_votes (fun _ _ _ _ _ S h => trimP_ok S h) (fun cdv A outer s H E hr => ?_)
  exact ⟨_, (pss_cons (ps_expr (pe_call ok_need_lots (hr.mono (by decide)) rfl T.m_need_lots T.k_need_lots b_need_lots .nil pass0 (pa_cons (pv 0) (pa_cons (pv 1) pa_nil)))) (pss_cons (ps_if (PW.pt (pw_or (pt_not (pt_val (pe_callB call_isi (by rfl) T.b_isinstance (by decide +kernel) (pa_cons (pv 2) (pa_cons (pe_bltn (v := .ty "tuple") (by rfl) T.b_tuple (by decide +kernel) rfl) pa_nil))))) (pw_or (pt_cmpR (op_neD hr.units) (pe_callB call_len_seq (by rfl) T.b_len (by decide +kernel) (pa_cons (pv 2) pa_nil)) pe_int (nomark _)) (pw_or1 (pt_not (pt_val (pe_callB (cr_all rfl) (by rfl) T.b_all (by decide +kernel) (pa_cons (pe_lc (own := [("group", 3)]) rfl sc_is_crossing_votes.nd (pi_seq (pv 2)) (blkOk_by (N := ["many", "lots", "value", "group"]) (sc := defScope st_is_crossing_votes) (by decide +kernel)) (fun _ _ _ _ _ => (pg_name (i := 3) sc_is_crossing_votes.nd rfl (Or.inl rfl))) (fun _ _ _ _ _ => pts_nil) (fun _ _ _ _ _ => (pe_call ok_is_group (hr.mono (by decide)) rfl T.m_is_group T.k_is_group b_is_group .nil pass0 (pa_cons (pv 0) (pa_cons (pv 3) pa_nil))))) pa_nil)))))))) (pss_one (ps_ret pe_bl)) pss_nil) (pss_cons (ps_if (PW.pt (pw_or (pt_not (pt_val (pe_callB (cr_all rfl) (by rfl) T.b_all (by decide +kernel) (pa_cons (pe_lc (own := [("group", 3)]) rfl sc_is_crossing_votes.nd (pi_seq (pe_slice sl_tupA (pv 2) po_none (po_some pe_int))) (blkOk_by (N := ["many", "lots", "value", "group"]) (sc := defScope st_is_crossing_votes) (by decide +kernel)) (fun _ _ _ _ _ => (pg_name (i := 3) sc_is_crossing_votes.nd rfl (Or.inl rfl))) (fun _ _ _ _ _ => pts_nil) (fun _ _ _ _ _ => (pe_call ok_may_all_lie (hr.mono (by decide)) rfl T.m_may_all_lie T.k_may_all_lie b_may_all_lie .nil pass0 (pa_cons (pv 1) (pa_cons (pe_call ok_others_of (hr.mono (by decide)) rfl T.m_others_of T.k_others_of b_others_of .nil pass0 (pa_cons (pv 0) (pa_cons (pv 3) pa_nil))) pa_nil))))) pa_nil)))) (pw_or1 (pt_cmpR (op_notInA (hu65 hr)) (pe_ix ix_any (pv 2) pe_int (fun _ _ => rfl)) (pv 1) (by rfl))))) (pss_one (ps_ret pe_bl)) pss_nil) (pss_one (ps_ret (pe_call ok_is_within (hr.mono (by decide)) rfl T.m_is_within T.k_is_within b_is_within .nil pass0 (pa_cons (pe_call ok_meeting (hr.mono (by decide)) rfl T.m_meeting T.k_meeting b_meeting .nil pass0 (pa_cons (pe_ix ix_any (pv 2) pe_int (fun _ _ => rfl)) (pa_cons (pe_ix ix_any (pv 2) pe_int (fun _ _ => rfl)) pa_nil))) (pa_cons (pe_ix ix_any (pv 2) pe_int (fun _ _ => rfl)) pa_nil)))))))),
    (ss_seq (ss_drop (sim_callN (sim_cons sim_var (sim_cons sim_var sim_nil)) (cons_len (cons_len nil_len)))) (ss_seq (ss_if (sim_tOr (sim_tNot (sim_tB (sim_cb c_isi (sim_cons sim_var (sim_cons sim_ty sim_nil))))) (sim_tOr (sim_tTest (sim_op s_neD (sim_cb c_len (sim_cons sim_var sim_nil)) sim_int)) (sim_tNot (sim_tB (sim_cL l_all (sim_lc (sim_seq sim_var) g_name sim_tYes (sim_callN (sim_cons sim_var (sim_cons sim_var sim_nil)) (cons_len (cons_len nil_len))))))))) (ss_ret sim_bl) ss_next) (ss_seq (ss_if (sim_tOr (sim_tNot (sim_tB (sim_cL l_all (sim_lc (sim_seq (sim_slT sim_var so_none (so_some sim_int))) g_name sim_tYes (sim_callN (sim_cons sim_var (sim_cons (sim_callN (sim_cons sim_var (sim_cons sim_var sim_nil)) (cons_len (cons_len nil_len))) sim_nil)) (cons_len (cons_len nil_len))))))) (sim_tTest (sim_op s_notIn (sim_op s_ix sim_var sim_int) sim_var))) (ss_ret sim_bl) ss_next) (ss_ret (sim_callN (sim_cons (sim_callN (sim_cons (sim_op s_ix sim_var sim_int) (sim_cons (sim_op s_ix sim_var sim_int) sim_nil)) (cons_len (cons_len nil_len))) (sim_cons (sim_op s_ix sim_var sim_int) sim_nil)) (cons_len (cons_len nil_len)))))))⟩
theorem okx_is_crossing_votes {f : Addr} {fd : FuncData} (Fu : Fun K "is_crossing_votes" "is_crossing_votes" st_is_crossing_votes f fd) (T : Txt K mg ad) (gO : GOk Γ ad) (DX_need_lots : DefX P w K Γ mg base 4 ad.need_lots ["many", "lots"] X_need_lots) : FnOk P w K mg base (L2.CX P w) 5 f fd ["many", "lots", "value"] (spX K Γ 3 X_is_crossing_votes) := by
  obtain ⟨fdx_need_lots, okx_need_lots, bx_need_lots⟩ := DX_need_lots
  refine def_fnX (G := GX_is_crossing_votes) Fu sc_is_crossing_votes (fun _ _ _ _ _ _ S h => trimX_ok S h) (fun cdv A outer s H E hr tk => ?_)
  exact ⟨_, (pss_cons (ps_expr (pe_call okx_need_lots (hr.mono (by decide)) rfl T.m_need_lots T.k_need_lots bx_need_lots .nil (passes_call tk (fun _ _ _ _ h => h)) (pa_cons (pv 0) (pa_cons (pv 1) pa_nil)))) pss_never),
    (ss_seq (ss_drop (sim_callX (sim_cons sim_var (sim_cons sim_var sim_nil)) (cons_len (cons_len nil_len)))) ss_never)⟩
abbrev st_need_family : Stmt := top 30
theorem sc_need_family : FnScope ["many", "lots", "family", "group"] ["many", "lots", "family"] (defScope st_need_family) := ⟨rfl, rfl, rfl, by decide +kernel, rfl, by decide +kernel, by decide +kernel⟩
theorem ok_need_family {f : Addr} {fd : FuncData} (Fu : Fun K "need_family" "need_family" st_need_family f fd) (T : Txt K mg ad) (D_need_lots : DefN P w K Γ mg base 4 ad.need_lots ["many", "lots"] F_need_lots) (D_is_group : DefN P w K Γ mg base 3 ad.is_group ["many", "value"] F_is_group) : FnOk P w K mg base CX0 5 f fd ["many", "lots", "family"] (spN K Γ 3 F_need_family) := by
  obtain ⟨fd_need_lots, ok_need_lots, b_need_lots⟩ := D_need_lots
  obtain ⟨fd_is_group, ok_is_group, b_is_group⟩ := D_is_group
  refine def_fn (G := G_need_family) Fu sc_need_family (fun _ _ _ _ _ S h => trimP_ok S h) (fun cdv A outer s H E hr => ?_)
  exact ⟨_, (pss_cons (ps_expr (pe_call ok_need_lots (hr.mono (by decide)) rfl T.m_need_lots T.k_need_lots b_need_lots .nil pass0 (pa_cons (pv 0) (pa_cons (pv 1) pa_nil)))) (pss_one (ps_if (PW.pt (pw_or (pt_not (pt_val (pe_callB call_isi (by rfl) T.b_isinstance (by decide +kernel) (pa_cons (pv 2) (pa_cons (pe_bltn (v := .ty "tuple") (by rfl) T.b_tuple (by decide +kernel) rfl) pa_nil))))) (pw_or1 (pt_not (pt_val (pe_callB (cr_all rfl) (by rfl) T.b_all (by decide +kernel) (pa_cons (pe_lc (own := [("group", 3)]) rfl sc_need_family.nd (pi_seq (pv 2)) (blkOk_by (N := ["many", "lots", "family", "group"]) (sc := defScope st_need_family) (by decide +kernel)) (fun _ _ _ _ _ => (pg_name (i := 3) sc_need_family.nd rfl (Or.inl rfl))) (fun _ _ _ _ _ => pts_nil) (fun _ _ _ _ _ => (pe_call ok_is_group (hr.mono (by decide)) rfl T.m_is_group T.k_is_group b_is_group .nil pass0 (pa_cons (pv 0) (pa_cons (pv 3) pa_nil))))) pa_nil))))))) (pss_one ps_never) pss_nil))),
    (ss_seq (ss_drop (sim_callN (sim_cons sim_var (sim_cons sim_var sim_nil)) (cons_len (cons_len nil_len)))) (ss_if (sim_tOr (sim_tNot (sim_tB (sim_cb c_isi (sim_cons sim_var (sim_cons sim_ty sim_nil))))) (sim_tNot (sim_tB (sim_cL l_all (sim_lc (sim_seq sim_var) g_name sim_tYes (sim_callN (sim_cons sim_var (sim_cons sim_var sim_nil)) (cons_len (cons_len nil_len)))))))) ss_never ss_next))⟩
theorem okx_need_family {f : Addr} {fd : FuncData} (Fu : Fun K "need_family" "need_family" st_need_family f fd) (T : Txt K mg ad) (gO : GOk Γ ad) (DX_need_lots : DefX P w K Γ mg base 4 ad.need_lots ["many", "lots"] X_need_lots) : FnOk P w K mg base (L2.CX P w) 5 f fd ["many", "lots", "family"] (spX K Γ 3 X_need_family) := by
  obtain ⟨fdx_need_lots, okx_need_lots, bx_need_lots⟩ := DX_need_lots
  refine def_fnX (G := GX_need_family) Fu sc_need_family (fun _ _ _ _ _ _ S h => trimX_ok S h) (fun cdv A outer s H E hr tk => ?_)
  exact ⟨_, (pss_cons (ps_expr (pe_call okx_need_lots (hr.mono (by decide)) rfl T.m_need_lots T.k_need_lots bx_need_lots .nil (passes_call tk (fun _ _ _ _ h => h)) (pa_cons (pv 0) (pa_cons (pv 1) pa_nil)))) pss_never),
    (ss_seq (ss_drop (sim_callX (sim_cons sim_var (sim_cons sim_var sim_nil)) (cons_len (cons_len nil_len)))) ss_never)⟩
abbrev st_enough_groups : Stmt := top 32
theorem sc_enough_groups : FnScope ["many", "lots", "lot"] ["many", "lots"] (defScope st_enough_groups) := ⟨rfl, rfl, rfl, by decide +kernel, rfl, by decide +kernel, by decide +kernel⟩
theorem ok_enough_groups {f : Addr} {fd : FuncData} (Fu : Fun K "enough_groups" "enough_groups" st_enough_groups f fd) (T : Txt K mg ad) (D_need_lots : DefN P w K Γ mg base 4 ad.need_lots ["many", "lots"] F_need_lots) (D_others_of : DefN P w K Γ mg base 1 ad.others_of ["many", "group"] F_others_of) : FnOk P w K mg base CX0 5 f fd ["many", "lots"] (spN K Γ 2 F_enough_groups) := by
  obtain ⟨fd_need_lots, ok_need_lots, b_need_lots⟩ := D_need_lots
  obtain ⟨fd_others_of, ok_others_of, b_others_of⟩ := D_others_of
  refine def_fn (G := G_enough_groups) Fu sc_enough_groups (fun _ _ _ _ _ S h => trimP_ok S h) (fun cdv A outer s H E hr => ?_)
  exact ⟨_, (pss_cons (ps_expr (pe_call ok_need_lots (hr.mono (by decide)) rfl T.m_need_lots T.k_need_lots b_need_lots .nil pass0 (pa_cons (pv 0) (pa_cons (pv 1) pa_nil)))) (pss_one (ps_ret (pe_callTy call_tuple_of (by rfl) T.b_tuple (by decide +kernel) (pa_cons (pe_callB (cr_sortedTL (hu64 hr)) (by rfl) T.b_sorted (by decide +kernel) (pa_cons (pe_lc (own := [("lot", 2)]) rfl sc_enough_groups.nd (pi_seq (pv 1)) (blkOk_by (N := ["many", "lots", "lot"]) (sc := defScope st_enough_groups) (by decide +kernel)) (fun _ _ _ _ _ => (pg_name (i := 2) sc_enough_groups.nd rfl (Or.inl rfl))) (fun _ _ _ _ _ => pts_nil) (fun _ _ _ _ _ => (pe_call ok_others_of (hr.mono (by decide)) rfl T.m_others_of T.k_others_of b_others_of .nil pass0 (pa_cons (pv 0) (pa_cons (pv 2) pa_nil))))) pa_nil)) pa_nil))))),
    (ss_seq (ss_drop (sim_callN (sim_cons sim_var (sim_cons sim_var sim_nil)) (cons_len (cons_len nil_len)))) (ss_ret (sim_cL l_tup (sim_cLL l_sortT (sim_lc (sim_seq sim_var) g_name sim_tYes (sim_callN (sim_cons sim_var (sim_cons sim_var sim_nil)) (cons_len (cons_len nil_len))))))))⟩
theorem okx_enough_groups {f : Addr} {fd : FuncData} (Fu : Fun K "enough_groups" "enough_groups" st_enough_groups f fd) (T : Txt K mg ad) (gO : GOk Γ ad) (DX_need_lots : DefX P w K Γ mg base 4 ad.need_lots ["many", "lots"] X_need_lots) : FnOk P w K mg base (L2.CX P w) 5 f fd ["many", "lots"] (spX K Γ 2 X_enough_groups) := by
  obtain ⟨fdx_need_lots, okx_need_lots, bx_need_lots⟩ := DX_need_lots
  refine def_fnX (G := GX_enough_groups) Fu sc_enough_groups (fun _ _ _ _ _ _ S h => trimX_ok S h) (fun cdv A outer s H E hr tk => ?_)
  exact ⟨_, (pss_cons (ps_expr (pe_call okx_need_lots (hr.mono (by decide)) rfl T.m_need_lots T.k_need_lots bx_need_lots .nil (passes_call tk (fun _ _ _ _ h => h)) (pa_cons (pv 0) (pa_cons (pv 1) pa_nil)))) pss_never),
    (ss_seq (ss_drop (sim_callX (sim_cons sim_var (sim_cons sim_var sim_nil)) (cons_len (cons_len nil_len)))) ss_never)⟩
abbrev st_is_live : Stmt := top 31
theorem sc_is_live : FnScope ["many", "lots", "family", "lot", "group"] ["many", "lots", "family"] (defScope st_is_live) := ⟨rfl, rfl, rfl, by decide +kernel, rfl, by decide +kernel, by decide +kernel⟩
theorem ok_is_live {f : Addr} {fd : FuncData} (Fu : Fun K "is_live" "is_live" st_is_live f fd) (T : Txt K mg ad) (D_need_family : DefN P w K Γ mg base 5 ad.need_family ["many", "lots", "family"] F_need_family) (D_meeting : DefN P w K Γ mg base 1 ad.meeting ["one", "other"] F_meeting) : FnOk P w K mg base CX0 6 f fd ["many", "lots", "family"] (spN K Γ 3 F_is_live) := by
  obtain ⟨fd_need_family, ok_need_family, b_need_family⟩ := D_need_family
  obtain ⟨fd_meeting, ok_meeting, b_meeting⟩ := D_meeting
  refine def_fn (G := G_is_live) Fu sc_is_live (fun _ _ _ _ _ S h => trimP_ok S h) (fun cdv A outer s H E hr => ?_)
  exact ⟨_, (pss_cons (ps_expr (pe_call ok_need_family (hr.mono (by decide)) rfl T.m_need_family T.k_need_family b_need_family .nil pass0 (pa_cons (pv 0) (pa_cons (pv 1) (pa_cons (pv 2) pa_nil))))) (pss_one (ps_ret (pe_callB (cr_all rfl) (by rfl) T.b_all (by decide +kernel) (pa_cons (pe_lc (own := [("lot", 3)]) rfl sc_is_live.nd (pi_seq (pv 1)) (blkOk_by (N := ["many", "lots", "family", "lot", "group"]) (sc := defScope st_is_live) (by decide +kernel)) (fun _ _ _ _ _ => (pg_name (i := 3) sc_is_live.nd rfl (Or.inr rfl))) (fun _ _ _ _ _ => pts_nil) (fun _ _ _ _ _ => (pe_callB (cr_any rfl) (by rfl) T.b_any (by decide +kernel) (pa_cons (pe_lc (own := [("group", 4)]) rfl sc_is_live.nd (pi_seq (pv 2)) (by refine (show BlkOk _ (relS _ (defScope st_is_live)) _ _ from ?_); exact blkOk_by (N := ["many", "lots", "family", "lot", "group"]) (by decide +kernel)) (fun _ _ _ _ _ => (pg_name (i := 4) sc_is_live.nd rfl (Or.inl rfl))) (fun _ _ _ _ _ => pts_nil) (fun _ _ _ _ _ => (pe_cmpR (op_eqNil hr.units0) (pe_call ok_meeting (hr.mono (by decide)) rfl T.m_meeting T.k_meeting b_meeting .nil pass0 (pa_cons (pv 4) (pa_cons (pv 3) pa_nil))) (pe_tup pa_nil) (nomark _)))) pa_nil)))) pa_nil))))),
    (ss_seq (ss_drop (sim_callN (sim_cons sim_var (sim_cons sim_var (sim_cons sim_var sim_nil))) (cons_len (cons_len (cons_len nil_len))))) (ss_ret (sim_cL l_all (sim_lc (sim_seq sim_var) g_name sim_tYes (sim_cL l_any (sim_lc (sim_seq sim_var) g_name sim_tYes (sim_nilT (sim_callN (sim_cons sim_var (sim_cons sim_var sim_nil)) (cons_len (cons_len nil_len))))))))))⟩
theorem okx_is_live {f : Addr} {fd : FuncData} (Fu : Fun K "is_live" "is_live" st_is_live f fd) (T : Txt K mg ad) (gO : GOk Γ ad) (DX_need_family : DefX P w K Γ mg base 5 ad.need_family ["many", "lots", "family"] X_need_family) : FnOk P w K mg base (L2.CX P w) 6 f fd ["many", "lots", "family"] (spX K Γ 3 X_is_live) := by
  obtain ⟨fdx_need_family, okx_need_family, bx_need_family⟩ := DX_need_family
  refine def_fnX (G := GX_is_live) Fu sc_is_live (fun _ _ _ _ _ _ S h => trimX_ok S h) (fun cdv A outer s H E hr tk => ?_)
  exact ⟨_, (pss_cons (ps_expr (pe_call okx_need_family (hr.mono (by decide)) rfl T.m_need_family T.k_need_family bx_need_family .nil (passes_call tk (fun _ _ _ _ h => h)) (pa_cons (pv 0) (pa_cons (pv 1) (pa_cons (pv 2) pa_nil))))) pss_never),
    (ss_seq (ss_drop (sim_callX (sim_cons sim_var (sim_cons sim_var (sim_cons sim_var sim_nil))) (cons_len (cons_len (cons_len nil_len))))) ss_never)⟩
abbrev st_law : Stmt := top 51
theorem sc_law : FnScope ["script", "state", "turn", "many", "lots", "lap", "group", "enough_here", "binds_here", "more", "bad", "wrong", "odd", "ask", "lot"] ["script"] (defScope st_law) := ⟨rfl, rfl, rfl, by decide +kernel, rfl, by decide +kernel, by decide +kernel⟩
abbrev lamEA : Expr := lamElt 3 ((forBody ((defBody st_law).getD 1 (.Pass ⟨0, 0, 0, 0⟩))).getD 6 (.Pass ⟨0, 0, 0, 0⟩))
theorem sc_lamEA : FnScope ["one", "two"] ["one", "two"] (lamS lamEA) := ⟨rfl, rfl, rfl, by decide +kernel, rfl, by decide +kernel, by decide +kernel⟩
abbrev lamEB : Expr := lamElt 4 ((forBody ((defBody st_law).getD 1 (.Pass ⟨0, 0, 0, 0⟩))).getD 6 (.Pass ⟨0, 0, 0, 0⟩))
theorem sc_lamEB : FnScope ["one", "two", "none"] ((["one", "two"] : List Str) ++ [("none" : Str)]) (lamS lamEB) := ⟨rfl, rfl, rfl, by decide +kernel, rfl, by decide +kernel, by decide +kernel⟩
theorem ok_law {f c Pt : Addr} {fd : FuncData} (Fu : FunT K "law" st_law f fd c Pt) (TB : TabB base mg c Pt) (gT : Γ.T = [(Pt, ("law.<locals>.<lambda>" : Str))]) (T : Txt K mg ad) (gO : GOk Γ ad) (D__law_begun : DefN P w K Γ mg base 1 ad._law_begun ["script"] F__law_begun) (D__law_ll_lots : DefN P w K Γ mg base 4 ad._law_ll_lots ["state"] F__law_ll_lots) (D__law_ll_first : DefN P w K Γ mg base 2 ad._law_ll_first ["many", "lots"] F__law_ll_first) (D__law_ll_rest : DefN P w K Γ mg base 1 ad._law_ll_rest ["many", "group"] F__law_ll_rest) (D__law_ll_group : DefN P w K Γ mg base 3 ad._law_ll_group ["state", "many"] F__law_ll_group) (D__law_ll_may : DefN P w K Γ mg base 2 ad._law_ll_may ["lots", "group"] F__law_ll_may) (D__law_ll_binds : DefN P w K Γ mg base 2 ad._law_ll_binds ["many", "lots", "group"] F__law_ll_binds) (D__law_is_truth : DefN P w K Γ mg base 1 ad._law_is_truth ["found", "due"] F__law_is_truth) (D_is_enough : DefN P w K Γ mg base 5 ad.is_enough ["many", "lots", "group"] F_is_enough) (D_is_binding : DefN P w K Γ mg base 5 ad.is_binding ["many", "lots", "group"] F_is_binding) (D__law_pick : DefN P w K Γ mg base 3 ad._law_pick ["state", "several"] F__law_pick) (D__law_k23_bad : DefN P w K Γ mg base 4 ad._law_k23_bad ["state", "many"] F__law_k23_bad) (K_three_lots_1_0 : DefNK P w K Γ mg base 5 ad.three_lots ["many", "lots"] ["lots", "many"] 2 [1, 0] F_three_lots) (K_enough_groups_1_0 : DefNK P w K Γ mg base 5 ad.enough_groups ["many", "lots"] ["lots", "many"] 2 [1, 0] F_enough_groups) (K_may_lie_2_1_0 : DefNK P w K Γ mg base 5 ad.may_lie ["many", "lots", "group"] ["group", "lots", "many"] 3 [2, 1, 0] F_may_lie) (K_is_enough_2_1_0 : DefNK P w K Γ mg base 5 ad.is_enough ["many", "lots", "group"] ["group", "lots", "many"] 3 [2, 1, 0] F_is_enough) (K_is_binding_2_1_0 : DefNK P w K Γ mg base 5 ad.is_binding ["many", "lots", "group"] ["group", "lots", "many"] 3 [2, 1, 0] F_is_binding) (DX_may_lie : DefX P w K Γ mg base 5 ad.may_lie ["many", "lots", "group"] X_may_lie) (DX_is_enough : DefX P w K Γ mg base 5 ad.is_enough ["many", "lots", "group"] X_is_enough) (DX_is_binding : DefX P w K Γ mg base 5 ad.is_binding ["many", "lots", "group"] X_is_binding) (DX_is_crossing_votes : DefX P w K Γ mg base 5 ad.is_crossing_votes ["many", "lots", "value"] X_is_crossing_votes) (DX_is_live : DefX P w K Γ mg base 6 ad.is_live ["many", "lots", "family"] X_is_live) (DX_three_lots : DefX P w K Γ mg base 5 ad.three_lots ["many", "lots"] X_three_lots) (DX_enough_groups : DefX P w K Γ mg base 5 ad.enough_groups ["many", "lots"] X_enough_groups) (DX_crossing_votes : DefX P w K Γ mg base 5 ad.crossing_votes ["many", "lots"] X_crossing_votes) (DK : DefS P w K mg base 1 ad._law_ll_kind ["caught"] (spKind K Γ wordOf)) {fdc : FuncData} (Uc : Fun K "_law_caught" "_law_caught" st__law_caught ad._law_caught fdc) (b_c : Binds K fdc ["work"] []) : RunC P w K mg base f fd ["script"] (spN K Γ 1 (F_law ad)) := by
  obtain ⟨fd__law_begun, ok__law_begun, b__law_begun⟩ := D__law_begun
  obtain ⟨fd__law_ll_lots, ok__law_ll_lots, b__law_ll_lots⟩ := D__law_ll_lots
  obtain ⟨fd__law_ll_first, ok__law_ll_first, b__law_ll_first⟩ := D__law_ll_first
  obtain ⟨fd__law_ll_rest, ok__law_ll_rest, b__law_ll_rest⟩ := D__law_ll_rest
  obtain ⟨fd__law_ll_group, ok__law_ll_group, b__law_ll_group⟩ := D__law_ll_group
  obtain ⟨fd__law_ll_may, ok__law_ll_may, b__law_ll_may⟩ := D__law_ll_may
  obtain ⟨fd__law_ll_binds, ok__law_ll_binds, b__law_ll_binds⟩ := D__law_ll_binds
  obtain ⟨fd__law_is_truth, ok__law_is_truth, b__law_is_truth⟩ := D__law_is_truth
  obtain ⟨fd_is_enough, ok_is_enough, b_is_enough⟩ := D_is_enough
  obtain ⟨fd_is_binding, ok_is_binding, b_is_binding⟩ := D_is_binding
  obtain ⟨fd__law_pick, ok__law_pick, b__law_pick⟩ := D__law_pick
  obtain ⟨fd__law_k23_bad, ok__law_k23_bad, b__law_k23_bad⟩ := D__law_k23_bad
  obtain ⟨fdk_three_lots_1_0, okk_three_lots_1_0, kb_three_lots_1_0⟩ := K_three_lots_1_0
  obtain ⟨fdk_enough_groups_1_0, okk_enough_groups_1_0, kb_enough_groups_1_0⟩ := K_enough_groups_1_0
  obtain ⟨fdk_may_lie_2_1_0, okk_may_lie_2_1_0, kb_may_lie_2_1_0⟩ := K_may_lie_2_1_0
  obtain ⟨fdk_is_enough_2_1_0, okk_is_enough_2_1_0, kb_is_enough_2_1_0⟩ := K_is_enough_2_1_0
  obtain ⟨fdk_is_binding_2_1_0, okk_is_binding_2_1_0, kb_is_binding_2_1_0⟩ := K_is_binding_2_1_0
  have HX_may_lie := DX_may_lie
  obtain ⟨fdx_may_lie, okx_may_lie, bx_may_lie⟩ := DX_may_lie
  have HX_is_enough := DX_is_enough
  obtain ⟨fdx_is_enough, okx_is_enough, bx_is_enough⟩ := DX_is_enough
  have HX_is_binding := DX_is_binding
  obtain ⟨fdx_is_binding, okx_is_binding, bx_is_binding⟩ := DX_is_binding
  have HX_is_crossing_votes := DX_is_crossing_votes
  obtain ⟨fdx_is_crossing_votes, okx_is_crossing_votes, bx_is_crossing_votes⟩ := DX_is_crossing_votes
  have HX_is_live := DX_is_live
  obtain ⟨fdx_is_live, okx_is_live, bx_is_live⟩ := DX_is_live
  have HX_three_lots := DX_three_lots
  obtain ⟨fdx_three_lots, okx_three_lots, bx_three_lots⟩ := DX_three_lots
  have HX_enough_groups := DX_enough_groups
  obtain ⟨fdx_enough_groups, okx_enough_groups, bx_enough_groups⟩ := DX_enough_groups
  have HX_crossing_votes := DX_crossing_votes
  obtain ⟨fdx_crossing_votes, okx_crossing_votes, bx_crossing_votes⟩ := DX_crossing_votes
  have asks_ask_3 : ∀ q ∈ ([(ad.may_lie, X_may_lie), (ad.is_enough, X_is_enough), (ad.is_binding, X_is_binding)] : List (Addr × Fn)), HeldX P w K Γ mg base 5 3 q := List.forall_mem_cons.mpr ⟨⟨5, ["many", "lots", "group"], by decide, rfl, HX_may_lie, T.k_may_lie⟩, List.forall_mem_cons.mpr ⟨⟨5, ["many", "lots", "group"], by decide, rfl, HX_is_enough, T.k_is_enough⟩, List.forall_mem_cons.mpr ⟨⟨5, ["many", "lots", "group"], by decide, rfl, HX_is_binding, T.k_is_binding⟩, fun _ h => nomatch h⟩⟩⟩
  have asks_ask_2 : ∀ q ∈ ([(ad.three_lots, X_three_lots), (ad.enough_groups, X_enough_groups), (ad.crossing_votes, X_crossing_votes)] : List (Addr × Fn)), HeldX P w K Γ mg base 7 2 q := List.forall_mem_cons.mpr ⟨⟨5, ["many", "lots"], by decide, rfl, HX_three_lots, T.k_three_lots⟩, List.forall_mem_cons.mpr ⟨⟨5, ["many", "lots"], by decide, rfl, HX_enough_groups, T.k_enough_groups⟩, List.forall_mem_cons.mpr ⟨⟨5, ["many", "lots"], by decide, rfl, HX_crossing_votes, T.k_crossing_votes⟩, fun _ h => nomatch h⟩⟩⟩
  obtain ⟨fdk_, ok__law_ll_kind, b__law_ll_kind⟩ := DK
  obtain ⟨c_oc, c_od, c_kV, c_doc, c_pm, c_an, c_cdv, c_ct, c_osl, rfl, lk_c, cd_c⟩ := Uc.ex
  have gE : ∀ c C, Γ c = some C → PySem.W.exmOne K (.ref C) (.ref ad.PurseError) = some true := fun c C h => (kit_facts T gO c C h).1.2
  have hTm : ∀ {z : Str}, z = ("law.<locals>.<lambda>" : Str) → (Pt, z) ∈ Γ.T := fun {z} h => by rw [gT, h]; exact List.mem_singleton.mpr rfl
  have hTu : ∀ {z : Str}, z = ("law.<locals>.<lambda>" : Str) → ∀ p ∈ Γ.T, p.1 = Pt → p.2 = z := fun {z} h p hp _ => by rw [gT] at hp; rw [List.mem_singleton.mp hp, h]
  have lamsOk : ∀ L ∈ ([(lamK0 (("law" : Str) ++ (".<locals>." : Str) ++ ("<lambda>" : Str)) (lamP lamEA) (lamB lamEA) (lamS lamEA) ["one", "two"] (fun E => tCall (spX K Γ 3 X_is_crossing_votes) [] E (tCons (tVar 0) (tCons (tVar 1) (tCons (tC .non) tNil))))), (lamK1 (("law" : Str) ++ (".<locals>." : Str) ++ ("<lambda>" : Str)) (lamP lamEB) (lamB lamEB) (lamS lamEB) 0 ["one", "two", "none"] (fun E => tCall (spX K Γ 3 X_is_live) [] E (tCons (tVar 0) (tCons (tVar 1) (tCons (tC .non) tNil)))))] : List LamK), LamKOk P w K mg base 7 2 L := List.forall_mem_cons.mpr ⟨(lamK0_ok (k := 6) (ps := ["one", "two"]) sc_lamEA (fun us hl => match us, hl with | [_, _], _ => fun _ _ _ _ => rfl) (fun A outer s H E f c' hr => pe_call okx_is_crossing_votes (hr.mono (by decide)) rfl T.m_is_crossing_votes T.k_is_crossing_votes bx_is_crossing_votes .nil (passes_call (takes_of rfl rfl rfl rfl) (fun _ _ _ _ h => h)) (pa_cons (pe_var (i := 0) rfl (.inl rfl)) (pa_cons (pe_var (i := 1) rfl (.inl rfl)) (pa_cons pe_non pa_nil))))), List.forall_mem_cons.mpr ⟨(lamK1_ok (k := 6) (ps := ["one", "two"]) (x := "none") sc_lamEB (fun us hl => match us, hl with | [_, _], _ => fun _ _ _ _ _ => ⟨_, rfl, fun _ => rfl⟩) (fun A outer s H E f c' hr => pe_call okx_is_live (hr.mono (by decide)) rfl T.m_is_live T.k_is_live bx_is_live .nil (passes_call (takes_of rfl rfl rfl rfl) (fun _ _ _ _ h => h)) (pa_cons (pe_var (i := 0) rfl (.inl rfl)) (pa_cons (pe_var (i := 1) rfl (.inl rfl)) (pa_cons pe_non pa_nil))))), fun _ h => nomatch h⟩⟩
  have lq : ("law" : Str) ++ (".<locals>." : Str) ++ ("<lambda>" : Str) = ("law.<locals>.<lambda>" : Str) := by decide +kernel
  refine def_runC (k := 10) (G := G_law ad) Fu sc_law ⟨rfl, by decide, by decide⟩ (fun _ _ _ _ _ _ h => h) (fun s H E hr => ?_)
  exact ⟨_, (pss_cons (ps_set (i := 1) sc_law.nd rfl (Or.inl rfl) (pe_call ok__law_begun (hr.mono (by decide)) rfl T.m__law_begun T.k__law_begun b__law_begun .nil pass0 (pa_cons (pv 0) pa_nil))) (pss_cons (ps_for PassesOwn.never rfl (pi_range1 (by rfl) T.b_range (pa_cons pe_int pa_nil)) (pg_name (i := 2) sc_law.nd rfl (Or.inl rfl)) (pss_cons (ps_asg (pe_call ok__law_ll_lots (hr.mono (by decide)) rfl T.m__law_ll_lots T.k__law_ll_lots b__law_ll_lots .nil pass0 (pa_cons (pv 1) pa_nil)) (pg_tup rfl (pgs_cons (pg_name (i := 3) sc_law.nd rfl (Or.inr rfl)) (pgs_cons (pg_name (i := 4) sc_law.nd rfl (Or.inr rfl)) pgs_nil)))) (pss_cons (ps_if (pt_cmpR L2.op_ne (pe_callB (call_reprN rfl (hu64 hr)) (by rfl) T.b_repr (by decide +kernel) (pa_cons (pe_callK0 okk_three_lots_1_0 (hr.mono (by decide)) rfl T.m_three_lots T.k_three_lots kb_three_lots_1_0 pass0 (pk_cons (pv 4) (pk_cons (pv 3) pk_nil))) pa_nil)) (pe_callB (call_reprN rfl (hu64 hr)) (by rfl) T.b_repr (by decide +kernel) (pa_cons (pe_call ok__law_ll_first (hr.mono (by decide)) rfl T.m__law_ll_first T.k__law_ll_first b__law_ll_first .nil pass0 (pa_cons (pv 3) (pa_cons (pv 4) pa_nil))) pa_nil)) (nomark _)) (pss_one (ps_ret pe_bl)) pss_nil) (pss_cons (ps_if (pt_cmpR L2.op_ne (pe_callB (call_reprN rfl (hu64 hr)) (by rfl) T.b_repr (by decide +kernel) (pa_cons (pe_callK0 okk_enough_groups_1_0 (hr.mono (by decide)) rfl T.m_enough_groups T.k_enough_groups kb_enough_groups_1_0 pass0 (pk_cons (pv 4) (pk_cons (pv 3) pk_nil))) pa_nil)) (pe_callB (call_reprN rfl (hu64 hr)) (by rfl) T.b_repr (by decide +kernel) (pa_cons (pe_callTy call_tuple_of (by rfl) T.b_tuple (by decide +kernel) (pa_cons (pe_callB (cr_sortedTL (hu64 hr)) (by rfl) T.b_sorted (by decide +kernel) (pa_cons (pe_lc (own := [("lot", 14)]) rfl sc_law.nd (pi_seq (pv 4)) (blkOk_by (N := ["script", "state", "turn", "many", "lots", "lap", "group", "enough_here", "binds_here", "more", "bad", "wrong", "odd", "ask", "lot"]) (sc := defScope st_law) (by decide +kernel)) (fun _ _ _ _ _ => (pg_name (i := 14) sc_law.nd rfl (Or.inl rfl))) (fun _ _ _ _ _ => pts_nil) (fun _ _ _ _ _ => (pe_call ok__law_ll_rest (hr.mono (by decide)) rfl T.m__law_ll_rest T.k__law_ll_rest b__law_ll_rest .nil pass0 (pa_cons (pv 3) (pa_cons (pv 14) pa_nil))))) pa_nil)) pa_nil)) pa_nil)) (nomark _)) (pss_one (ps_ret pe_bl)) pss_nil) (pss_cons (ps_for PassesOwn.never rfl (pi_range1 (by rfl) T.b_range (pa_cons pe_int pa_nil)) (pg_name (i := 5) sc_law.nd rfl (Or.inl rfl)) (pss_cons (ps_set (i := 6) sc_law.nd rfl (Or.inl rfl) (pe_call ok__law_ll_group (hr.mono (by decide)) rfl T.m__law_ll_group T.k__law_ll_group b__law_ll_group .nil pass0 (pa_cons (pv 1) (pa_cons (pv 3) pa_nil)))) (pss_cons (ps_par (by rfl) sc_law.nd rfl rfl (by decide) rfl rfl (pa_cons (pe_call ok__law_ll_may (hr.mono (by decide)) rfl T.m__law_ll_may T.k__law_ll_may b__law_ll_may .nil pass0 (pa_cons (pv 4) (pa_cons (pe_call ok__law_ll_rest (hr.mono (by decide)) rfl T.m__law_ll_rest T.k__law_ll_rest b__law_ll_rest .nil pass0 (pa_cons (pv 3) (pa_cons (pv 6) pa_nil))) pa_nil))) (pa_cons (pe_call ok__law_ll_binds (hr.mono (by decide)) rfl T.m__law_ll_binds T.k__law_ll_binds b__law_ll_binds .nil pass0 (pa_cons (pv 3) (pa_cons (pv 4) (pa_cons (pv 6) pa_nil)))) pa_nil)) (by rfl)) (pss_cons (ps_if (pt_not (pt_val (pe_call ok__law_is_truth (hr.mono (by decide)) rfl T.m__law_is_truth T.k__law_is_truth b__law_is_truth .nil pass0 (pa_cons (pe_callK0 okk_may_lie_2_1_0 (hr.mono (by decide)) rfl T.m_may_lie T.k_may_lie kb_may_lie_2_1_0 pass0 (pk_cons (pv 6) (pk_cons (pv 4) (pk_cons (pv 3) pk_nil)))) (pa_cons (pe_call ok__law_ll_may (hr.mono (by decide)) rfl T.m__law_ll_may T.k__law_ll_may b__law_ll_may .nil pass0 (pa_cons (pv 4) (pa_cons (pv 6) pa_nil))) pa_nil))))) (pss_one (ps_ret pe_bl)) pss_nil) (pss_cons (ps_if (PW.pt (pw_or (pt_not (pt_val (pe_call ok__law_is_truth (hr.mono (by decide)) rfl T.m__law_is_truth T.k__law_is_truth b__law_is_truth .nil pass0 (pa_cons (pe_callK0 okk_is_enough_2_1_0 (hr.mono (by decide)) rfl T.m_is_enough T.k_is_enough kb_is_enough_2_1_0 pass0 (pk_cons (pv 6) (pk_cons (pv 4) (pk_cons (pv 3) pk_nil)))) (pa_cons (pv 7) pa_nil))))) (pw_or1 (PW.pt (pw_and (pt_val (pv 7)) (pw_and1 (pt_not (pt_val (pv 8))))))))) (pss_one (ps_ret pe_bl)) pss_nil) (pss_cons (ps_if (pt_not (pt_val (pe_call ok__law_is_truth (hr.mono (by decide)) rfl T.m__law_is_truth T.k__law_is_truth b__law_is_truth .nil pass0 (pa_cons (pe_callK0 okk_is_binding_2_1_0 (hr.mono (by decide)) rfl T.m_is_binding T.k_is_binding kb_is_binding_2_1_0 pass0 (pk_cons (pv 6) (pk_cons (pv 4) (pk_cons (pv 3) pk_nil)))) (pa_cons (pv 8) pa_nil))))) (pss_one (ps_ret pe_bl)) pss_nil) (pss_cons (ps_set (i := 9) sc_law.nd rfl (Or.inl rfl) (pe_callTy call_tuple_of (by rfl) T.b_tuple (by decide +kernel) (pa_cons (pe_callB (cr_sortedSet (by rfl)) (by rfl) T.b_sorted (by decide +kernel) (pa_cons (pe_callTy (cr_setI (by rfl)) (by rfl) T.b_set (by decide +kernel) (pa_cons (pe_op op_addA (pv 6) (pe_call ok__law_ll_group (hr.mono (by decide)) rfl T.m__law_ll_group T.k__law_ll_group b__law_ll_group .nil pass0 (pa_cons (pv 1) (pa_cons (pv 3) pa_nil)))) pa_nil)) pa_nil)) pa_nil))) (pss_one (ps_if (PW.pt (pw_or (PW.pt (pw_and (pt_val (pv 7)) (pw_and1 (pt_not (pt_val (pe_call ok_is_enough (hr.mono (by decide)) rfl T.m_is_enough T.k_is_enough b_is_enough .nil pass0 (pa_cons (pv 3) (pa_cons (pv 4) (pa_cons (pv 9) pa_nil))))))))) (pw_or1 (PW.pt (pw_and (pt_val (pv 8)) (pw_and1 (pt_not (pt_val (pe_call ok_is_binding (hr.mono (by decide)) rfl T.m_is_binding T.k_is_binding b_is_binding .nil pass0 (pa_cons (pv 3) (pa_cons (pv 4) (pa_cons (pv 9) pa_nil)))))))))))) (pss_one (ps_ret pe_bl)) pss_nil))))))))) (pss_cons (ps_asg (pe_tup (pa_cons (pe_call ok__law_pick (hr.mono (by decide)) rfl T.m__law_pick T.k__law_pick b__law_pick .nil pass0 (pa_cons (pv 1) (pa_cons (pe_lst (pa_cons pe_non (pa_cons pe_int (pa_cons pe_int (pa_cons pe_bl pa_nil))))) pa_nil))) (pa_cons (pe_call ok__law_k23_bad (hr.mono (by decide)) rfl T.m__law_k23_bad T.k__law_k23_bad b__law_k23_bad .nil pass0 (pa_cons (pv 1) (pa_cons (pv 3) pa_nil))) (pa_cons (pe_call ok__law_pick (hr.mono (by decide)) rfl T.m__law_pick T.k__law_pick b__law_pick .nil pass0 (pa_cons (pv 1) (pa_cons (pe_lst (pa_cons pe_non (pa_cons (pe_lst (pa_cons pe_int pa_nil)) (pa_cons (pe_tup (pa_cons (pv 3) pa_nil)) (pa_cons (pe_tup (pa_cons pe_int (pa_cons pe_int pa_nil))) (pa_cons (pe_tup (pa_cons pe_bl pa_nil)) (pa_cons (pe_tup (pa_cons (pe_un un_neg pe_int) pa_nil)) pa_nil))))))) pa_nil))) pa_nil)))) (pg_tup rfl (pgs_cons (pg_name (i := 10) sc_law.nd rfl (Or.inr rfl)) (pgs_cons (pg_name (i := 11) sc_law.nd rfl (Or.inr rfl)) (pgs_cons (pg_name (i := 12) sc_law.nd rfl (Or.inr rfl)) pgs_nil))))) (pss_cons (ps_for PassesOwn.never rfl (pi_seq (pe_lst (pa_cons (pe_adr rfl T.m_may_lie) (pa_cons (pe_adr rfl T.m_is_enough) (pa_cons (pe_adr rfl T.m_is_binding) pa_nil))))) (pg_name (i := 13) sc_law.nd rfl (Or.inr rfl)) (pss_cons (ps_if (PW.pt (pw_or (pt_cmpR (op_neD hr.units) (pe_call ok__law_ll_kind (hr.mono (by decide)) rfl T.m__law_ll_kind T.k__law_ll_kind b__law_ll_kind .nil pass0 (pa_cons (pe_lamcallG (k := 7) (T := Γ.T) rfl T.m__law_caught T.k__law_caught lk_c cd_c b_c sc__law_caught rfl (.inl rfl) (caught_gives rfl rfl rfl rfl T.m_PurseError) (lamMk0 TB rfl (hTm lq) (hTu lq) (lamG_by (by kernel_rfl)) rfl (fun _ _ _ _ _ _ => rfl)) (hr.mono (by decide)) (lamG_by (by kernel_rfl)) (fun A outer s H E f c' hr => (pe_askX (i := 13) asks_ask_3 (hr.mono (by decide)) rfl (.inr (.inr rfl)) (passes_call (takes_of rfl rfl rfl rfl) (fun _ _ _ _ h => h)) (pa_cons (pv 10) (pa_cons (pv 11) (pa_cons (pv 12) pa_nil)))))) pa_nil)) pe_str (nomark _)) (pw_or1 (pt_cmpR (op_neD hr.units) (pe_call ok__law_ll_kind (hr.mono (by decide)) rfl T.m__law_ll_kind T.k__law_ll_kind b__law_ll_kind .nil pass0 (pa_cons (pe_lamcallG (k := 7) (T := Γ.T) rfl T.m__law_caught T.k__law_caught lk_c cd_c b_c sc__law_caught rfl (.inl rfl) (caught_gives rfl rfl rfl rfl T.m_PurseError) (lamMk1 (x := "none") TB rfl (hTm lq) (hTu lq) (lamG_by (by kernel_rfl)) rfl rfl rfl (fun _ _ _ _ _ _ _ => ⟨_, rfl, fun _ => rfl⟩)) (hr.mono (by decide)) (lamG_by (by kernel_rfl)) (fun A outer s H E f c' hr => (pe_askX (i := 13) asks_ask_3 (hr.mono (by decide)) rfl (.inr (.inr rfl)) (passes_call (takes_of rfl rfl rfl rfl) (fun _ _ _ _ h => h)) (pa_cons (pv 3) (pa_cons (pv 11) (pa_cons (pv 12) pa_nil)))))) pa_nil)) pe_str (nomark _))))) (pss_one (ps_ret pe_bl)) pss_nil) (pss_one (ps_if (pt_cmpR (op_neD hr.units) (pe_call ok__law_ll_kind (hr.mono (by decide)) rfl T.m__law_ll_kind T.k__law_ll_kind b__law_ll_kind .nil pass0 (pa_cons (pe_lamcallG (k := 7) (T := Γ.T) rfl T.m__law_caught T.k__law_caught lk_c cd_c b_c sc__law_caught rfl (.inl rfl) (caught_gives rfl rfl rfl rfl T.m_PurseError) (lamMk0 TB rfl (hTm lq) (hTu lq) (lamG_by (by kernel_rfl)) rfl (fun _ _ _ _ _ _ => rfl)) (hr.mono (by decide)) (lamG_by (by kernel_rfl)) (fun A outer s H E f c' hr => (pe_askX (i := 13) asks_ask_3 (hr.mono (by decide)) rfl (.inr (.inr rfl)) (passes_call (takes_of rfl rfl rfl rfl) (fun _ _ _ _ h => h)) (pa_cons (pv 3) (pa_cons (pv 4) (pa_cons (pv 12) pa_nil)))))) pa_nil)) pe_str (nomark _)) (pss_one (ps_ret pe_bl)) pss_nil)))) (pss_one (ps_for PassesOwn.never rfl (pi_seq (pe_lst (pa_cons (pe_adr rfl T.m_three_lots) (pa_cons (pe_adr rfl T.m_enough_groups) (pa_cons (pe_adr rfl T.m_crossing_votes) (pa_cons (pe_lamV (params := lamP lamEA) (body := lamB lamEA) (scope := lamS lamEA) TB rfl (hTm lq) (hTu lq) (by decide +kernel) rfl) (pa_cons (pe_lamV1 (params := lamP lamEB) (body := lamB lamEB) (scope := lamS lamEB) TB rfl (hTm lq) (hTu lq) (by decide +kernel) rfl rfl) pa_nil))))))) (pg_name (i := 13) sc_law.nd rfl (Or.inr rfl)) (pss_one (ps_if (PW.pt (pw_or (pt_cmpR (op_neD hr.units) (pe_call ok__law_ll_kind (hr.mono (by decide)) rfl T.m__law_ll_kind T.k__law_ll_kind b__law_ll_kind .nil pass0 (pa_cons (pe_lamcallG (k := 7) (T := Γ.T) rfl T.m__law_caught T.k__law_caught lk_c cd_c b_c sc__law_caught rfl (.inl rfl) (caught_gives rfl rfl rfl rfl T.m_PurseError) (lamMk0 TB rfl (hTm lq) (hTu lq) (lamG_by (by kernel_rfl)) rfl (fun _ _ _ _ _ _ => rfl)) (hr.mono (by decide)) (lamG_by (by kernel_rfl)) (fun A outer s H E f c' hr => (pe_askY (i := 13) (Ls := [(lamK0 (("law" : Str) ++ (".<locals>." : Str) ++ ("<lambda>" : Str)) (lamP lamEA) (lamB lamEA) (lamS lamEA) ["one", "two"] (fun E => tCall (spX K Γ 3 X_is_crossing_votes) [] E (tCons (tVar 0) (tCons (tVar 1) (tCons (tC .non) tNil))))), (lamK1 (("law" : Str) ++ (".<locals>." : Str) ++ ("<lambda>" : Str)) (lamP lamEB) (lamB lamEB) (lamS lamEB) 0 ["one", "two", "none"] (fun E => tCall (spX K Γ 3 X_is_live) [] E (tCons (tVar 0) (tCons (tVar 1) (tCons (tC .non) tNil)))))]) asks_ask_2 lamsOk (hr.mono (by decide)) rfl (.inr (.inr rfl)) (passes_call (takes_of rfl rfl rfl rfl) (fun _ _ _ _ h => h)) (pa_cons (pv 10) (pa_cons (pv 11) pa_nil))))) pa_nil)) pe_str (nomark _)) (pw_or1 (pt_cmpR (op_neD hr.units) (pe_call ok__law_ll_kind (hr.mono (by decide)) rfl T.m__law_ll_kind T.k__law_ll_kind b__law_ll_kind .nil pass0 (pa_cons (pe_lamcallG (k := 7) (T := Γ.T) rfl T.m__law_caught T.k__law_caught lk_c cd_c b_c sc__law_caught rfl (.inl rfl) (caught_gives rfl rfl rfl rfl T.m_PurseError) (lamMk1 (x := "none") TB rfl (hTm lq) (hTu lq) (lamG_by (by kernel_rfl)) rfl rfl rfl (fun _ _ _ _ _ _ _ => ⟨_, rfl, fun _ => rfl⟩)) (hr.mono (by decide)) (lamG_by (by kernel_rfl)) (fun A outer s H E f c' hr => (pe_askY (i := 13) (Ls := [(lamK0 (("law" : Str) ++ (".<locals>." : Str) ++ ("<lambda>" : Str)) (lamP lamEA) (lamB lamEA) (lamS lamEA) ["one", "two"] (fun E => tCall (spX K Γ 3 X_is_crossing_votes) [] E (tCons (tVar 0) (tCons (tVar 1) (tCons (tC .non) tNil))))), (lamK1 (("law" : Str) ++ (".<locals>." : Str) ++ ("<lambda>" : Str)) (lamP lamEB) (lamB lamEB) (lamS lamEB) 0 ["one", "two", "none"] (fun E => tCall (spX K Γ 3 X_is_live) [] E (tCons (tVar 0) (tCons (tVar 1) (tCons (tC .non) tNil)))))]) asks_ask_2 lamsOk (hr.mono (by decide)) rfl (.inr (.inr rfl)) (passes_call (takes_of rfl rfl rfl rfl) (fun _ _ _ _ h => h)) (pa_cons (pv 3) (pa_cons (pv 11) pa_nil))))) pa_nil)) pe_str (nomark _))))) (pss_one (ps_ret pe_bl)) pss_nil))))))))))) (pss_one (ps_ret pe_bl)))),
    (ss_seq (ss_asg (sim_callN (sim_cons sim_var sim_nil) (cons_len nil_len)) g_name) (ss_seq (ss_for (sim_rng1 (sim_cons sim_int sim_nil)) g_name (ss_seq (ss_asg (sim_callN (sim_cons sim_var sim_nil) (cons_len nil_len)) (g_tup (g_cons g_name (g_cons g_name g_nil)))) (ss_seq (ss_if (sim_tTest (sim_reprNeN (sim_callKw (n := 2) (p := [1, 0]) (sim_cons sim_var (sim_cons sim_var sim_nil)) (cons_len (cons_len nil_len)) (by intro ds h; obtain ⟨a0, a1, rfl⟩ := len2 h; rfl)) (sim_callN (sim_cons sim_var (sim_cons sim_var sim_nil)) (cons_len (cons_len nil_len))))) (ss_ret sim_bl) ss_next) (ss_seq (ss_if (sim_tTest (sim_reprNeN (sim_callKw (n := 2) (p := [1, 0]) (sim_cons sim_var (sim_cons sim_var sim_nil)) (cons_len (cons_len nil_len)) (by intro ds h; obtain ⟨a0, a1, rfl⟩ := len2 h; rfl)) (sim_cL l_tup (sim_cLL l_sortT (sim_lc (sim_seq sim_var) g_name sim_tYes (sim_callN (sim_cons sim_var (sim_cons sim_var sim_nil)) (cons_len (cons_len nil_len)))))))) (ss_ret sim_bl) ss_next) (ss_seq (ss_for (sim_rng1 (sim_cons sim_int sim_nil)) g_name (ss_seq (ss_asg (sim_callN (sim_cons sim_var (sim_cons sim_var sim_nil)) (cons_len (cons_len nil_len))) g_name) (ss_seq (ss_par (sim_cons (sim_callN (sim_cons sim_var (sim_cons (sim_callN (sim_cons sim_var (sim_cons sim_var sim_nil)) (cons_len (cons_len nil_len))) sim_nil)) (cons_len (cons_len nil_len))) (sim_cons (sim_callN (sim_cons sim_var (sim_cons sim_var (sim_cons sim_var sim_nil))) (cons_len (cons_len (cons_len nil_len)))) sim_nil))) (ss_seq (ss_if (sim_tNot (sim_tB (sim_callN (sim_cons (sim_callKw (n := 3) (p := [2, 1, 0]) (sim_cons sim_var (sim_cons sim_var (sim_cons sim_var sim_nil))) (cons_len (cons_len (cons_len nil_len))) (by intro ds h; obtain ⟨a0, a1, a2, rfl⟩ := len3 h; rfl)) (sim_cons (sim_callN (sim_cons sim_var (sim_cons sim_var sim_nil)) (cons_len (cons_len nil_len))) sim_nil)) (cons_len (cons_len nil_len))))) (ss_ret sim_bl) ss_next) (ss_seq (ss_if (sim_tOr (sim_tNot (sim_tB (sim_callN (sim_cons (sim_callKw (n := 3) (p := [2, 1, 0]) (sim_cons sim_var (sim_cons sim_var (sim_cons sim_var sim_nil))) (cons_len (cons_len (cons_len nil_len))) (by intro ds h; obtain ⟨a0, a1, a2, rfl⟩ := len3 h; rfl)) (sim_cons sim_var sim_nil)) (cons_len (cons_len nil_len))))) (sim_tAnd (sim_tB sim_var) (sim_tNot (sim_tB sim_var)))) (ss_ret sim_bl) ss_next) (ss_seq (ss_if (sim_tNot (sim_tB (sim_callN (sim_cons (sim_callKw (n := 3) (p := [2, 1, 0]) (sim_cons sim_var (sim_cons sim_var (sim_cons sim_var sim_nil))) (cons_len (cons_len (cons_len nil_len))) (by intro ds h; obtain ⟨a0, a1, a2, rfl⟩ := len3 h; rfl)) (sim_cons sim_var sim_nil)) (cons_len (cons_len nil_len))))) (ss_ret sim_bl) ss_next) (ss_seq (ss_asg (sim_cL l_tup (sim_ssI (sim_op s_add sim_var (sim_callN (sim_cons sim_var (sim_cons sim_var sim_nil)) (cons_len (cons_len nil_len)))))) g_name) (ss_if (sim_tOr (sim_tAnd (sim_tB sim_var) (sim_tNot (sim_tB (sim_callN (sim_cons sim_var (sim_cons sim_var (sim_cons sim_var sim_nil))) (cons_len (cons_len (cons_len nil_len))))))) (sim_tAnd (sim_tB sim_var) (sim_tNot (sim_tB (sim_callN (sim_cons sim_var (sim_cons sim_var (sim_cons sim_var sim_nil))) (cons_len (cons_len (cons_len nil_len)))))))) (ss_ret sim_bl) ss_next)))))))) (ss_seq (ss_asg (sim_tup (sim_cons (sim_callN (sim_cons sim_var (sim_cons (sim_alloc (sim_lst (sim_cons sim_non (sim_cons sim_int (sim_cons sim_int (sim_cons sim_bl sim_nil)))))) sim_nil)) (cons_len (cons_len nil_len))) (sim_cons (sim_callN (sim_cons sim_var (sim_cons sim_var sim_nil)) (cons_len (cons_len nil_len))) (sim_cons (sim_callN (sim_cons sim_var (sim_cons (sim_alloc (sim_lst (sim_cons sim_non (sim_cons (sim_alloc (sim_lst (sim_cons sim_int sim_nil))) (sim_cons (sim_tup (sim_cons sim_var sim_nil)) (sim_cons (sim_tup (sim_cons sim_int (sim_cons sim_int sim_nil))) (sim_cons (sim_tup (sim_cons sim_bl sim_nil)) (sim_cons (sim_tup (sim_cons (sim_un s_neg sim_int) sim_nil)) sim_nil)))))))) sim_nil)) (cons_len (cons_len nil_len))) sim_nil)))) (g_tup (g_cons g_name (g_cons g_name (g_cons g_name g_nil))))) (ss_seq (ss_for (sim_seqL (sim_lst (sim_cons sim_adr (sim_cons sim_adr (sim_cons sim_adr sim_nil))))) g_name (ss_seq (ss_if (sim_tOr (sim_tTest (sim_op s_neD (sim_kind (fun c C h => gE c C h) (fun E' => (sim_ask (sim_cons sim_var (sim_cons sim_var (sim_cons sim_var sim_nil))) (cons_len (cons_len (cons_len nil_len)))))) sim_str)) (sim_tTest (sim_op s_neD (sim_kind (fun c C h => gE c C h) (fun E' => (sim_ask (sim_cons sim_var (sim_cons sim_var (sim_cons sim_var sim_nil))) (cons_len (cons_len (cons_len nil_len)))))) sim_str))) (ss_ret sim_bl) ss_next) (ss_if (sim_tTest (sim_op s_neD (sim_kind (fun c C h => gE c C h) (fun E' => (sim_ask (sim_cons sim_var (sim_cons sim_var (sim_cons sim_var sim_nil))) (cons_len (cons_len (cons_len nil_len)))))) sim_str)) (ss_ret sim_bl) ss_next))) (ss_askLoop (fun lEA lEB Xs kEA kEB => (ss_if (sim_tOr (sim_tTest (sim_op s_neD (sim_kindP (fun c C h => gE c C h) (fun E' => (sim_askY (List.forall_mem_cons.mpr ⟨held0 (.head _) kEA (fun E2 => (sim_callXP (sim_cons sim_var (sim_cons sim_var (sim_cons sim_non sim_nil))) (cons_len (cons_len (cons_len nil_len))))), List.forall_mem_cons.mpr ⟨held1 (.tail _ (.head _)) kEB (fun E2 => (sim_callXP (sim_cons sim_var (sim_cons sim_var (sim_cons sim_non sim_nil))) (cons_len (cons_len (cons_len nil_len))))), fun _ h => nomatch h⟩⟩) (sim_cons sim_var (sim_cons sim_var sim_nil)) (cons_len (cons_len nil_len))))) sim_str)) (sim_tTest (sim_op s_neD (sim_kindP (fun c C h => gE c C h) (fun E' => (sim_askY (List.forall_mem_cons.mpr ⟨held0 (.head _) kEA (fun E2 => (sim_callXP (sim_cons sim_var (sim_cons sim_var (sim_cons sim_non sim_nil))) (cons_len (cons_len (cons_len nil_len))))), List.forall_mem_cons.mpr ⟨held1 (.tail _ (.head _)) kEB (fun E2 => (sim_callXP (sim_cons sim_var (sim_cons sim_var (sim_cons sim_non sim_nil))) (cons_len (cons_len (cons_len nil_len))))), fun _ h => nomatch h⟩⟩) (sim_cons sim_var (sim_cons sim_var sim_nil)) (cons_len (cons_len nil_len))))) sim_str))) (ss_ret sim_bl) ss_next)))))))))) (ss_ret sim_bl)))⟩
end
end K23

set_option maxHeartbeats 4000000
namespace K23
open PySem L2 Sim PyProof.Rows LamX
theorem kb_enough_groups_1_0 {K : PySem.W.Frag} {f : Addr} {fd : FuncData} (F : Fun K "enough_groups" "enough_groups" st_enough_groups f fd) : KBinds K fd ["many", "lots"] ["lots", "many"] (kpG 2 [1, 0]) (kpG 2 [1, 0]) := by
  obtain ⟨oc, od, kV, doc, pm, an, cdv, ct, osl, rfl, lk, hcd⟩ := F.ex
  refine ⟨fun s us ws _ hl => ?_, fun r q => kpG_rel r q⟩
  obtain ⟨rfl, hw⟩ := kpG_to hl (by decide)
  obtain ⟨a0, a1, rfl⟩ := len2 hw
  exact .of_eq rfl
theorem kb_is_binding_2_1_0 {K : PySem.W.Frag} {f : Addr} {fd : FuncData} (F : Fun K "is_binding" "is_binding" st_is_binding f fd) : KBinds K fd ["many", "lots", "group"] ["group", "lots", "many"] (kpG 3 [2, 1, 0]) (kpG 3 [2, 1, 0]) := by
  obtain ⟨oc, od, kV, doc, pm, an, cdv, ct, osl, rfl, lk, hcd⟩ := F.ex
  refine ⟨fun s us ws _ hl => ?_, fun r q => kpG_rel r q⟩
  obtain ⟨rfl, hw⟩ := kpG_to hl (by decide)
  obtain ⟨a0, a1, a2, rfl⟩ := len3 hw
  exact .of_eq rfl
theorem kb_is_enough_2_1_0 {K : PySem.W.Frag} {f : Addr} {fd : FuncData} (F : Fun K "is_enough" "is_enough" st_is_enough f fd) : KBinds K fd ["many", "lots", "group"] ["group", "lots", "many"] (kpG 3 [2, 1, 0]) (kpG 3 [2, 1, 0]) := by
  obtain ⟨oc, od, kV, doc, pm, an, cdv, ct, osl, rfl, lk, hcd⟩ := F.ex
  refine ⟨fun s us ws _ hl => ?_, fun r q => kpG_rel r q⟩
  obtain ⟨rfl, hw⟩ := kpG_to hl (by decide)
  obtain ⟨a0, a1, a2, rfl⟩ := len3 hw
  exact .of_eq rfl
theorem kb_may_lie_2_1_0 {K : PySem.W.Frag} {f : Addr} {fd : FuncData} (F : Fun K "may_lie" "may_lie" st_may_lie f fd) : KBinds K fd ["many", "lots", "group"] ["group", "lots", "many"] (kpG 3 [2, 1, 0]) (kpG 3 [2, 1, 0]) := by
  obtain ⟨oc, od, kV, doc, pm, an, cdv, ct, osl, rfl, lk, hcd⟩ := F.ex
  refine ⟨fun s us ws _ hl => ?_, fun r q => kpG_rel r q⟩
  obtain ⟨rfl, hw⟩ := kpG_to hl (by decide)
  obtain ⟨a0, a1, a2, rfl⟩ := len3 hw
  exact .of_eq rfl
theorem kb_three_lots_1_0 {K : PySem.W.Frag} {f : Addr} {fd : FuncData} (F : Fun K "three_lots" "three_lots" st_three_lots f fd) : KBinds K fd ["many", "lots"] ["lots", "many"] (kpG 2 [1, 0]) (kpG 2 [1, 0]) := by
  obtain ⟨oc, od, kV, doc, pm, an, cdv, ct, osl, rfl, lk, hcd⟩ := F.ex
  refine ⟨fun s us ws _ hl => ?_, fun r q => kpG_rel r q⟩
  obtain ⟨rfl, hw⟩ := kpG_to hl (by decide)
  obtain ⟨a0, a1, rfl⟩ := len2 hw
  exact .of_eq rfl
theorem law_bindsT {K : PySem.W.Frag} {f c Pt : Addr} {fd : FuncData} (F : FunT K "law" st_law f fd c Pt) (s : Shared) (v : Value) : BindsTo s fd ⟨[v], []⟩ [("script", v)] := by
  obtain ⟨oc, od, kV, doc, pm, an, ct, osl, rfl, lk⟩ := F.ex
  exact .of_eq rfl
theorem all_mk {l : PySem.W.OpenLaw} {w : World} {K : PySem.W.Frag} {h : Heap} {mg : Str → Option Value} {fa : Addr} (hlaw : ∀ (ad : Ad) (ns : List Int), ns.length ≤ 63 → ∃ μ, F_law ad [.fz (ns.map D.int)] [] = .ok (.bl true) μ) (hkind : ∀ (a : Addr) (c : Str), ∃ μ', fnG 5 (G__law_ll_kind a c) [.adr a] [] = .ok (.str (wordOf c)) μ') (X : K.In h) (G : h.Ns mainGlobals mg) (hfa : mg "law" = some (.ref fa))
    (h_is_number : At K "is_number" st_is_number)
    (h_is_within : At K "is_within" st_is_within)
    (h_others_of : At K "others_of" st_others_of)
    (h_all_of : At K "all_of" st_all_of)
    (h_triples_of : At K "triples_of" st_triples_of)
    (h_meeting : At K "meeting" st_meeting)
    (h__law_begun : At K "_law_begun" st__law_begun)
    (h__law_blended : At K "_law_blended" st__law_blended)
    (h__law_caught : At K "_law_caught" st__law_caught)
    (h__law_is_truth : At K "_law_is_truth" st__law_is_truth)
    (h__law_ll_within : At K "_law_ll_within" st__law_ll_within)
    (h__law_ll_threes : At K "_law_ll_threes" st__law_ll_threes)
    (h__law_ll_rest : At K "_law_ll_rest" st__law_ll_rest)
    (h__law_ll_kind : At K "_law_ll_kind" st__law_ll_kind)
    (h_is_count : At K "is_count" st_is_count)
    (h_may_all_lie : At K "may_all_lie" st_may_all_lie)
    (h_three_by : At K "three_by" st_three_by)
    (h__law_draw : At K "_law_draw" st__law_draw)
    (h__law_ll_may : At K "_law_ll_may" st__law_ll_may)
    (h__law_ll_first : At K "_law_ll_first" st__law_ll_first)
    (h__law_ll_binds : At K "_law_ll_binds" st__law_ll_binds)
    (h_is_group : At K "is_group" st_is_group)
    (h_need_many : At K "need_many" st_need_many)
    (h__law_pick : At K "_law_pick" st__law_pick)
    (h__law_mixed : At K "_law_mixed" st__law_mixed)
    (h__law_ll_group : At K "_law_ll_group" st__law_ll_group)
    (h_need_lots : At K "need_lots" st_need_lots)
    (h_need_group : At K "need_group" st_need_group)
    (h__law_ll_lots : At K "_law_ll_lots" st__law_ll_lots)
    (h__law_k23_bad : At K "_law_k23_bad" st__law_k23_bad)
    (h_may_lie : At K "may_lie" st_may_lie)
    (h_is_enough : At K "is_enough" st_is_enough)
    (h_three_lots : At K "three_lots" st_three_lots)
    (h_is_binding : At K "is_binding" st_is_binding)
    (h_crossing_votes : At K "crossing_votes" st_crossing_votes)
    (h_is_crossing_votes : At K "is_crossing_votes" st_is_crossing_votes)
    (h_need_family : At K "need_family" st_need_family)
    (h_enough_groups : At K "enough_groups" st_enough_groups)
    (h_is_live : At K "is_live" st_is_live)
    (h_law : AtT K "law" st_law h)
    (b_abs : PySem.W.nsIn K mainGlobals "abs" = some none)
    (b_all : PySem.W.nsIn K mainGlobals "all" = some none)
    (b_any : PySem.W.nsIn K mainGlobals "any" = some none)
    (b_bool : PySem.W.nsIn K mainGlobals "bool" = some none)
    (b_enumerate : PySem.W.nsIn K mainGlobals "enumerate" = some none)
    (b_int : PySem.W.nsIn K mainGlobals "int" = some none)
    (b_isinstance : PySem.W.nsIn K mainGlobals "isinstance" = some none)
    (b_len : PySem.W.nsIn K mainGlobals "len" = some none)
    (b_list : PySem.W.nsIn K mainGlobals "list" = some none)
    (b_range : PySem.W.nsIn K mainGlobals "range" = some none)
    (b_repr : PySem.W.nsIn K mainGlobals "repr" = some none)
    (b_set : PySem.W.nsIn K mainGlobals "set" = some none)
    (b_sorted : PySem.W.nsIn K mainGlobals "sorted" = some none)
    (b_tuple : PySem.W.nsIn K mainGlobals "tuple" = some none)
    (b_zip : PySem.W.nsIn K mainGlobals "zip" = some none)
    (c_MOST_COUNTED : ∃ t, PySem.W.nsIn K mainGlobals "MOST_COUNTED" = some (some (.int 7 t)))
    (c_MOST_NUMBER : ∃ t, PySem.W.nsIn K mainGlobals "MOST_NUMBER" = some (some (.int 1000000000000000000 t))) {a_PurseError : Addr} {a_BadMany : Addr} {a_BadLots : Addr} {a_BadGroup : Addr} {a_BadFamily : Addr} {a_BadWeights : Addr}
    (n_PurseError : PySem.W.nsIn K mainGlobals "PurseError" = some (some (.ref a_PurseError)))
    (n_BadMany : PySem.W.nsIn K mainGlobals "BadMany" = some (some (.ref a_BadMany)))
    (n_BadLots : PySem.W.nsIn K mainGlobals "BadLots" = some (some (.ref a_BadLots)))
    (n_BadGroup : PySem.W.nsIn K mainGlobals "BadGroup" = some (some (.ref a_BadGroup)))
    (n_BadFamily : PySem.W.nsIn K mainGlobals "BadFamily" = some (some (.ref a_BadFamily)))
    (n_BadWeights : PySem.W.nsIn K mainGlobals "BadWeights" = some (some (.ref a_BadWeights)))
    (v_BadMany : ExcV K a_BadMany a_PurseError)
    (v_BadLots : ExcV K a_BadLots a_PurseError)
    (v_BadGroup : ExcV K a_BadGroup a_PurseError)
    (i_BadMany_BadMany : PySem.W.kitOne K (.ref a_BadMany) (.ref a_BadMany) = some true)
    (i_BadMany_BadLots : PySem.W.kitOne K (.ref a_BadMany) (.ref a_BadLots) = some false)
    (i_BadMany_BadGroup : PySem.W.kitOne K (.ref a_BadMany) (.ref a_BadGroup) = some false)
    (i_BadMany_BadFamily : PySem.W.kitOne K (.ref a_BadMany) (.ref a_BadFamily) = some false)
    (i_BadMany_BadWeights : PySem.W.kitOne K (.ref a_BadMany) (.ref a_BadWeights) = some false)
    (i_BadLots_BadMany : PySem.W.kitOne K (.ref a_BadLots) (.ref a_BadMany) = some false)
    (i_BadLots_BadLots : PySem.W.kitOne K (.ref a_BadLots) (.ref a_BadLots) = some true)
    (i_BadLots_BadGroup : PySem.W.kitOne K (.ref a_BadLots) (.ref a_BadGroup) = some false)
    (i_BadLots_BadFamily : PySem.W.kitOne K (.ref a_BadLots) (.ref a_BadFamily) = some false)
    (i_BadLots_BadWeights : PySem.W.kitOne K (.ref a_BadLots) (.ref a_BadWeights) = some false)
    (i_BadGroup_BadMany : PySem.W.kitOne K (.ref a_BadGroup) (.ref a_BadMany) = some false)
    (i_BadGroup_BadLots : PySem.W.kitOne K (.ref a_BadGroup) (.ref a_BadLots) = some false)
    (i_BadGroup_BadGroup : PySem.W.kitOne K (.ref a_BadGroup) (.ref a_BadGroup) = some true)
    (i_BadGroup_BadFamily : PySem.W.kitOne K (.ref a_BadGroup) (.ref a_BadFamily) = some false)
    (i_BadGroup_BadWeights : PySem.W.kitOne K (.ref a_BadGroup) (.ref a_BadWeights) = some false) : LawAtC l w K "script" mg fa h := by
  obtain ⟨f_is_number, d_is_number, a_is_number, u_is_number⟩ := h_is_number
  obtain ⟨f_is_within, d_is_within, a_is_within, u_is_within⟩ := h_is_within
  obtain ⟨f_others_of, d_others_of, a_others_of, u_others_of⟩ := h_others_of
  obtain ⟨f_all_of, d_all_of, a_all_of, u_all_of⟩ := h_all_of
  obtain ⟨f_triples_of, d_triples_of, a_triples_of, u_triples_of⟩ := h_triples_of
  obtain ⟨f_meeting, d_meeting, a_meeting, u_meeting⟩ := h_meeting
  obtain ⟨f__law_begun, d__law_begun, a__law_begun, u__law_begun⟩ := h__law_begun
  obtain ⟨f__law_blended, d__law_blended, a__law_blended, u__law_blended⟩ := h__law_blended
  obtain ⟨f__law_caught, d__law_caught, a__law_caught, u__law_caught⟩ := h__law_caught
  obtain ⟨f__law_is_truth, d__law_is_truth, a__law_is_truth, u__law_is_truth⟩ := h__law_is_truth
  obtain ⟨f__law_ll_within, d__law_ll_within, a__law_ll_within, u__law_ll_within⟩ := h__law_ll_within
  obtain ⟨f__law_ll_threes, d__law_ll_threes, a__law_ll_threes, u__law_ll_threes⟩ := h__law_ll_threes
  obtain ⟨f__law_ll_rest, d__law_ll_rest, a__law_ll_rest, u__law_ll_rest⟩ := h__law_ll_rest
  obtain ⟨f__law_ll_kind, d__law_ll_kind, a__law_ll_kind, u__law_ll_kind⟩ := h__law_ll_kind
  obtain ⟨f_is_count, d_is_count, a_is_count, u_is_count⟩ := h_is_count
  obtain ⟨f_may_all_lie, d_may_all_lie, a_may_all_lie, u_may_all_lie⟩ := h_may_all_lie
  obtain ⟨f_three_by, d_three_by, a_three_by, u_three_by⟩ := h_three_by
  obtain ⟨f__law_draw, d__law_draw, a__law_draw, u__law_draw⟩ := h__law_draw
  obtain ⟨f__law_ll_may, d__law_ll_may, a__law_ll_may, u__law_ll_may⟩ := h__law_ll_may
  obtain ⟨f__law_ll_first, d__law_ll_first, a__law_ll_first, u__law_ll_first⟩ := h__law_ll_first
  obtain ⟨f__law_ll_binds, d__law_ll_binds, a__law_ll_binds, u__law_ll_binds⟩ := h__law_ll_binds
  obtain ⟨f_is_group, d_is_group, a_is_group, u_is_group⟩ := h_is_group
  obtain ⟨f_need_many, d_need_many, a_need_many, u_need_many⟩ := h_need_many
  obtain ⟨f__law_pick, d__law_pick, a__law_pick, u__law_pick⟩ := h__law_pick
  obtain ⟨f__law_mixed, d__law_mixed, a__law_mixed, u__law_mixed⟩ := h__law_mixed
  obtain ⟨f__law_ll_group, d__law_ll_group, a__law_ll_group, u__law_ll_group⟩ := h__law_ll_group
  obtain ⟨f_need_lots, d_need_lots, a_need_lots, u_need_lots⟩ := h_need_lots
  obtain ⟨f_need_group, d_need_group, a_need_group, u_need_group⟩ := h_need_group
  obtain ⟨f__law_ll_lots, d__law_ll_lots, a__law_ll_lots, u__law_ll_lots⟩ := h__law_ll_lots
  obtain ⟨f__law_k23_bad, d__law_k23_bad, a__law_k23_bad, u__law_k23_bad⟩ := h__law_k23_bad
  obtain ⟨f_may_lie, d_may_lie, a_may_lie, u_may_lie⟩ := h_may_lie
  obtain ⟨f_is_enough, d_is_enough, a_is_enough, u_is_enough⟩ := h_is_enough
  obtain ⟨f_three_lots, d_three_lots, a_three_lots, u_three_lots⟩ := h_three_lots
  obtain ⟨f_is_binding, d_is_binding, a_is_binding, u_is_binding⟩ := h_is_binding
  obtain ⟨f_crossing_votes, d_crossing_votes, a_crossing_votes, u_crossing_votes⟩ := h_crossing_votes
  obtain ⟨f_is_crossing_votes, d_is_crossing_votes, a_is_crossing_votes, u_is_crossing_votes⟩ := h_is_crossing_votes
  obtain ⟨f_need_family, d_need_family, a_need_family, u_need_family⟩ := h_need_family
  obtain ⟨f_enough_groups, d_enough_groups, a_enough_groups, u_enough_groups⟩ := h_enough_groups
  obtain ⟨f_is_live, d_is_live, a_is_live, u_is_live⟩ := h_is_live
  obtain ⟨f_law, d_law, c_law, P_law, a_law, u_law, e_law⟩ := h_law
  cases hfa.symm.trans (PySem.W.mg_of X G a_law)
  have T : Txt K mg (⟨f_is_number, f_is_within, f_others_of, f_all_of, f_triples_of, f_meeting, f__law_begun, f__law_blended, f__law_caught, f__law_is_truth, f__law_ll_within, f__law_ll_threes, f__law_ll_rest, f__law_ll_kind, f_is_count, f_may_all_lie, f_three_by, f__law_draw, f__law_ll_may, f__law_ll_first, f__law_ll_binds, f_is_group, f_need_many, f__law_pick, f__law_mixed, f__law_ll_group, f_need_lots, f_need_group, f__law_ll_lots, f__law_k23_bad, f_may_lie, f_is_enough, f_three_lots, f_is_binding, f_crossing_votes, f_is_crossing_votes, f_need_family, f_enough_groups, f_is_live, fa, a_PurseError, a_BadMany, a_BadLots, a_BadGroup, a_BadFamily, a_BadWeights⟩ : Ad) := ⟨PySem.W.mg_of X G a_is_number, u_is_number.kp, PySem.W.mg_of X G a_is_within, u_is_within.kp, PySem.W.mg_of X G a_others_of, u_others_of.kp, PySem.W.mg_of X G a_all_of, u_all_of.kp, PySem.W.mg_of X G a_triples_of, u_triples_of.kp, PySem.W.mg_of X G a_meeting, u_meeting.kp, PySem.W.mg_of X G a__law_begun, u__law_begun.kp, PySem.W.mg_of X G a__law_blended, u__law_blended.kp, PySem.W.mg_of X G a__law_caught, u__law_caught.kp, PySem.W.mg_of X G a__law_is_truth, u__law_is_truth.kp, PySem.W.mg_of X G a__law_ll_within, u__law_ll_within.kp, PySem.W.mg_of X G a__law_ll_threes, u__law_ll_threes.kp, PySem.W.mg_of X G a__law_ll_rest, u__law_ll_rest.kp, PySem.W.mg_of X G a__law_ll_kind, u__law_ll_kind.kp, PySem.W.mg_of X G a_is_count, u_is_count.kp, PySem.W.mg_of X G a_may_all_lie, u_may_all_lie.kp, PySem.W.mg_of X G a_three_by, u_three_by.kp, PySem.W.mg_of X G a__law_draw, u__law_draw.kp, PySem.W.mg_of X G a__law_ll_may, u__law_ll_may.kp, PySem.W.mg_of X G a__law_ll_first, u__law_ll_first.kp, PySem.W.mg_of X G a__law_ll_binds, u__law_ll_binds.kp, PySem.W.mg_of X G a_is_group, u_is_group.kp, PySem.W.mg_of X G a_need_many, u_need_many.kp, PySem.W.mg_of X G a__law_pick, u__law_pick.kp, PySem.W.mg_of X G a__law_mixed, u__law_mixed.kp, PySem.W.mg_of X G a__law_ll_group, u__law_ll_group.kp, PySem.W.mg_of X G a_need_lots, u_need_lots.kp, PySem.W.mg_of X G a_need_group, u_need_group.kp, PySem.W.mg_of X G a__law_ll_lots, u__law_ll_lots.kp, PySem.W.mg_of X G a__law_k23_bad, u__law_k23_bad.kp, PySem.W.mg_of X G a_may_lie, u_may_lie.kp, PySem.W.mg_of X G a_is_enough, u_is_enough.kp, PySem.W.mg_of X G a_three_lots, u_three_lots.kp, PySem.W.mg_of X G a_is_binding, u_is_binding.kp, PySem.W.mg_of X G a_crossing_votes, u_crossing_votes.kp, PySem.W.mg_of X G a_is_crossing_votes, u_is_crossing_votes.kp, PySem.W.mg_of X G a_need_family, u_need_family.kp, PySem.W.mg_of X G a_enough_groups, u_enough_groups.kp, PySem.W.mg_of X G a_is_live, u_is_live.kp, PySem.W.mg_none_of X G b_abs, PySem.W.mg_none_of X G b_all, PySem.W.mg_none_of X G b_any, PySem.W.mg_none_of X G b_bool, PySem.W.mg_none_of X G b_enumerate, PySem.W.mg_none_of X G b_int, PySem.W.mg_none_of X G b_isinstance, PySem.W.mg_none_of X G b_len, PySem.W.mg_none_of X G b_list, PySem.W.mg_none_of X G b_range, PySem.W.mg_none_of X G b_repr, PySem.W.mg_none_of X G b_set, PySem.W.mg_none_of X G b_sorted, PySem.W.mg_none_of X G b_tuple, PySem.W.mg_none_of X G b_zip, c_MOST_COUNTED.imp fun _ z => PySem.W.mg_of X G z, c_MOST_NUMBER.imp fun _ z => PySem.W.mg_of X G z, PySem.W.mg_of X G n_PurseError, PySem.W.mg_of X G n_BadMany, PySem.W.mg_of X G n_BadLots, PySem.W.mg_of X G n_BadGroup, PySem.W.mg_of X G n_BadFamily, PySem.W.mg_of X G n_BadWeights, v_BadMany, v_BadLots, v_BadGroup, i_BadMany_BadMany, i_BadMany_BadLots, i_BadMany_BadGroup, i_BadMany_BadFamily, i_BadMany_BadWeights, i_BadLots_BadMany, i_BadLots_BadLots, i_BadLots_BadGroup, i_BadLots_BadFamily, i_BadLots_BadWeights, i_BadGroup_BadMany, i_BadGroup_BadLots, i_BadGroup_BadGroup, i_BadGroup_BadFamily, i_BadGroup_BadWeights⟩
  have gO : GOk (⟨fun x => List.lookup x [("BadMany", a_BadMany), ("BadLots", a_BadLots), ("BadGroup", a_BadGroup)], [(P_law, ("law.<locals>.<lambda>" : Str))], []⟩ : Clss) (⟨f_is_number, f_is_within, f_others_of, f_all_of, f_triples_of, f_meeting, f__law_begun, f__law_blended, f__law_caught, f__law_is_truth, f__law_ll_within, f__law_ll_threes, f__law_ll_rest, f__law_ll_kind, f_is_count, f_may_all_lie, f_three_by, f__law_draw, f__law_ll_may, f__law_ll_first, f__law_ll_binds, f_is_group, f_need_many, f__law_pick, f__law_mixed, f__law_ll_group, f_need_lots, f_need_group, f__law_ll_lots, f__law_k23_bad, f_may_lie, f_is_enough, f_three_lots, f_is_binding, f_crossing_votes, f_is_crossing_votes, f_need_family, f_enough_groups, f_is_live, fa, a_PurseError, a_BadMany, a_BadLots, a_BadGroup, a_BadFamily, a_BadWeights⟩ : Ad) := ⟨rfl, rfl, rfl, fun c C h => PySem.mem_of_lookup h⟩
  refine lawAtC (Γ := (⟨fun x => List.lookup x [("BadMany", a_BadMany), ("BadLots", a_BadLots), ("BadGroup", a_BadGroup)], [(P_law, ("law.<locals>.<lambda>" : Str))], []⟩ : Clss)) (F := F_law (⟨f_is_number, f_is_within, f_others_of, f_all_of, f_triples_of, f_meeting, f__law_begun, f__law_blended, f__law_caught, f__law_is_truth, f__law_ll_within, f__law_ll_threes, f__law_ll_rest, f__law_ll_kind, f_is_count, f_may_all_lie, f_three_by, f__law_draw, f__law_ll_may, f__law_ll_first, f__law_ll_binds, f_is_group, f_need_many, f__law_pick, f__law_mixed, f__law_ll_group, f_need_lots, f_need_group, f__law_ll_lots, f__law_k23_bad, f_may_lie, f_is_enough, f_three_lots, f_is_binding, f_crossing_votes, f_is_crossing_votes, f_need_family, f_enough_groups, f_is_live, fa, a_PurseError, a_BadMany, a_BadLots, a_BadGroup, a_BadFamily, a_BadWeights⟩ : Ad)) X u_law e_law (law_bindsT u_law) rfl rfl (hlaw _) (fun base _ _ TB => ?_)
  have O_is_number := ok_is_number (P := l.prog) (w := w) (Γ := (⟨fun x => List.lookup x [("BadMany", a_BadMany), ("BadLots", a_BadLots), ("BadGroup", a_BadGroup)], [(P_law, ("law.<locals>.<lambda>" : Str))], []⟩ : Clss)) (base := base) u_is_number T
  have D_is_number : DefN l.prog w K (⟨fun x => List.lookup x [("BadMany", a_BadMany), ("BadLots", a_BadLots), ("BadGroup", a_BadGroup)], [(P_law, ("law.<locals>.<lambda>" : Str))], []⟩ : Clss) mg base 1 f_is_number ["value", "low"] F_is_number := ⟨d_is_number, O_is_number, (u_is_number.binds fun _ _ _ _ _ _ us hl => match us, hl with | [_, _], _ => rfl)⟩
  have O_is_within := ok_is_within (P := l.prog) (w := w) (Γ := (⟨fun x => List.lookup x [("BadMany", a_BadMany), ("BadLots", a_BadLots), ("BadGroup", a_BadGroup)], [(P_law, ("law.<locals>.<lambda>" : Str))], []⟩ : Clss)) (base := base) u_is_within T
  have D_is_within : DefN l.prog w K (⟨fun x => List.lookup x [("BadMany", a_BadMany), ("BadLots", a_BadLots), ("BadGroup", a_BadGroup)], [(P_law, ("law.<locals>.<lambda>" : Str))], []⟩ : Clss) mg base 1 f_is_within ["one", "other"] F_is_within := ⟨d_is_within, O_is_within, (u_is_within.binds fun _ _ _ _ _ _ us hl => match us, hl with | [_, _], _ => rfl)⟩
  have O_others_of := ok_others_of (P := l.prog) (w := w) (Γ := (⟨fun x => List.lookup x [("BadMany", a_BadMany), ("BadLots", a_BadLots), ("BadGroup", a_BadGroup)], [(P_law, ("law.<locals>.<lambda>" : Str))], []⟩ : Clss)) (base := base) u_others_of T
  have D_others_of : DefN l.prog w K (⟨fun x => List.lookup x [("BadMany", a_BadMany), ("BadLots", a_BadLots), ("BadGroup", a_BadGroup)], [(P_law, ("law.<locals>.<lambda>" : Str))], []⟩ : Clss) mg base 1 f_others_of ["many", "group"] F_others_of := ⟨d_others_of, O_others_of, (u_others_of.binds fun _ _ _ _ _ _ us hl => match us, hl with | [_, _], _ => rfl)⟩
  have O_all_of := ok_all_of (P := l.prog) (w := w) (Γ := (⟨fun x => List.lookup x [("BadMany", a_BadMany), ("BadLots", a_BadLots), ("BadGroup", a_BadGroup)], [(P_law, ("law.<locals>.<lambda>" : Str))], []⟩ : Clss)) (base := base) u_all_of T
  have D_all_of : DefN l.prog w K (⟨fun x => List.lookup x [("BadMany", a_BadMany), ("BadLots", a_BadLots), ("BadGroup", a_BadGroup)], [(P_law, ("law.<locals>.<lambda>" : Str))], []⟩ : Clss) mg base 1 f_all_of ["groups"] F_all_of := ⟨d_all_of, O_all_of, (u_all_of.binds fun _ _ _ _ _ _ us hl => match us, hl with | [_], _ => rfl)⟩
  have O_triples_of := ok_triples_of (P := l.prog) (w := w) (Γ := (⟨fun x => List.lookup x [("BadMany", a_BadMany), ("BadLots", a_BadLots), ("BadGroup", a_BadGroup)], [(P_law, ("law.<locals>.<lambda>" : Str))], []⟩ : Clss)) (base := base) u_triples_of T
  have D_triples_of : DefN l.prog w K (⟨fun x => List.lookup x [("BadMany", a_BadMany), ("BadLots", a_BadLots), ("BadGroup", a_BadGroup)], [(P_law, ("law.<locals>.<lambda>" : Str))], []⟩ : Clss) mg base 1 f_triples_of ["lots"] F_triples_of := ⟨d_triples_of, O_triples_of, (u_triples_of.binds fun _ _ _ _ _ _ us hl => match us, hl with | [_], _ => rfl)⟩
  have O_meeting := ok_meeting (P := l.prog) (w := w) (Γ := (⟨fun x => List.lookup x [("BadMany", a_BadMany), ("BadLots", a_BadLots), ("BadGroup", a_BadGroup)], [(P_law, ("law.<locals>.<lambda>" : Str))], []⟩ : Clss)) (base := base) u_meeting T
  have D_meeting : DefN l.prog w K (⟨fun x => List.lookup x [("BadMany", a_BadMany), ("BadLots", a_BadLots), ("BadGroup", a_BadGroup)], [(P_law, ("law.<locals>.<lambda>" : Str))], []⟩ : Clss) mg base 1 f_meeting ["one", "other"] F_meeting := ⟨d_meeting, O_meeting, (u_meeting.binds fun _ _ _ _ _ _ us hl => match us, hl with | [_, _], _ => rfl)⟩
  have O__law_begun := ok__law_begun (P := l.prog) (w := w) (Γ := (⟨fun x => List.lookup x [("BadMany", a_BadMany), ("BadLots", a_BadLots), ("BadGroup", a_BadGroup)], [(P_law, ("law.<locals>.<lambda>" : Str))], []⟩ : Clss)) (base := base) u__law_begun T
  have D__law_begun : DefN l.prog w K (⟨fun x => List.lookup x [("BadMany", a_BadMany), ("BadLots", a_BadLots), ("BadGroup", a_BadGroup)], [(P_law, ("law.<locals>.<lambda>" : Str))], []⟩ : Clss) mg base 1 f__law_begun ["script"] F__law_begun := ⟨d__law_begun, O__law_begun, (u__law_begun.binds fun _ _ _ _ _ _ us hl => match us, hl with | [_], _ => rfl)⟩
  have O__law_blended := ok__law_blended (P := l.prog) (w := w) (Γ := (⟨fun x => List.lookup x [("BadMany", a_BadMany), ("BadLots", a_BadLots), ("BadGroup", a_BadGroup)], [(P_law, ("law.<locals>.<lambda>" : Str))], []⟩ : Clss)) (base := base) u__law_blended T
  have D__law_blended : DefN l.prog w K (⟨fun x => List.lookup x [("BadMany", a_BadMany), ("BadLots", a_BadLots), ("BadGroup", a_BadGroup)], [(P_law, ("law.<locals>.<lambda>" : Str))], []⟩ : Clss) mg base 1 f__law_blended ["state"] F__law_blended := ⟨d__law_blended, O__law_blended, (u__law_blended.binds fun _ _ _ _ _ _ us hl => match us, hl with | [_], _ => rfl)⟩
  have B__law_caught : Binds K d__law_caught ["work"] [] := (u__law_caught.binds fun _ _ _ _ _ _ us hl => match us, hl with | [_], _ => rfl)
  have O__law_is_truth := ok__law_is_truth (P := l.prog) (w := w) (Γ := (⟨fun x => List.lookup x [("BadMany", a_BadMany), ("BadLots", a_BadLots), ("BadGroup", a_BadGroup)], [(P_law, ("law.<locals>.<lambda>" : Str))], []⟩ : Clss)) (base := base) u__law_is_truth T
  have D__law_is_truth : DefN l.prog w K (⟨fun x => List.lookup x [("BadMany", a_BadMany), ("BadLots", a_BadLots), ("BadGroup", a_BadGroup)], [(P_law, ("law.<locals>.<lambda>" : Str))], []⟩ : Clss) mg base 1 f__law_is_truth ["found", "due"] F__law_is_truth := ⟨d__law_is_truth, O__law_is_truth, (u__law_is_truth.binds fun _ _ _ _ _ _ us hl => match us, hl with | [_, _], _ => rfl)⟩
  have O__law_ll_within := ok__law_ll_within (P := l.prog) (w := w) (Γ := (⟨fun x => List.lookup x [("BadMany", a_BadMany), ("BadLots", a_BadLots), ("BadGroup", a_BadGroup)], [(P_law, ("law.<locals>.<lambda>" : Str))], []⟩ : Clss)) (base := base) u__law_ll_within T
  have D__law_ll_within : DefN l.prog w K (⟨fun x => List.lookup x [("BadMany", a_BadMany), ("BadLots", a_BadLots), ("BadGroup", a_BadGroup)], [(P_law, ("law.<locals>.<lambda>" : Str))], []⟩ : Clss) mg base 1 f__law_ll_within ["one", "other"] F__law_ll_within := ⟨d__law_ll_within, O__law_ll_within, (u__law_ll_within.binds fun _ _ _ _ _ _ us hl => match us, hl with | [_, _], _ => rfl)⟩
  have O__law_ll_threes := ok__law_ll_threes (P := l.prog) (w := w) (Γ := (⟨fun x => List.lookup x [("BadMany", a_BadMany), ("BadLots", a_BadLots), ("BadGroup", a_BadGroup)], [(P_law, ("law.<locals>.<lambda>" : Str))], []⟩ : Clss)) (base := base) u__law_ll_threes T
  have D__law_ll_threes : DefN l.prog w K (⟨fun x => List.lookup x [("BadMany", a_BadMany), ("BadLots", a_BadLots), ("BadGroup", a_BadGroup)], [(P_law, ("law.<locals>.<lambda>" : Str))], []⟩ : Clss) mg base 1 f__law_ll_threes ["lots"] F__law_ll_threes := ⟨d__law_ll_threes, O__law_ll_threes, (u__law_ll_threes.binds fun _ _ _ _ _ _ us hl => match us, hl with | [_], _ => rfl)⟩
  have O__law_ll_rest := ok__law_ll_rest (P := l.prog) (w := w) (Γ := (⟨fun x => List.lookup x [("BadMany", a_BadMany), ("BadLots", a_BadLots), ("BadGroup", a_BadGroup)], [(P_law, ("law.<locals>.<lambda>" : Str))], []⟩ : Clss)) (base := base) u__law_ll_rest T
  have D__law_ll_rest : DefN l.prog w K (⟨fun x => List.lookup x [("BadMany", a_BadMany), ("BadLots", a_BadLots), ("BadGroup", a_BadGroup)], [(P_law, ("law.<locals>.<lambda>" : Str))], []⟩ : Clss) mg base 1 f__law_ll_rest ["many", "group"] F__law_ll_rest := ⟨d__law_ll_rest, O__law_ll_rest, (u__law_ll_rest.binds fun _ _ _ _ _ _ us hl => match us, hl with | [_, _], _ => rfl)⟩
  have DK : DefS l.prog w K mg base 1 f__law_ll_kind ["caught"] (spKind K (⟨fun x => List.lookup x [("BadMany", a_BadMany), ("BadLots", a_BadLots), ("BadGroup", a_BadGroup)], [(P_law, ("law.<locals>.<lambda>" : Str))], []⟩ : Clss) wordOf) := ⟨d__law_ll_kind, ok__law_ll_kind (P := l.prog) (w := w) (Γ := (⟨fun x => List.lookup x [("BadMany", a_BadMany), ("BadLots", a_BadLots), ("BadGroup", a_BadGroup)], [(P_law, ("law.<locals>.<lambda>" : Str))], []⟩ : Clss)) (base := base) u__law_ll_kind T gO hkind, (u__law_ll_kind.binds fun _ _ _ _ _ _ us hl => match us, hl with | [_], _ => rfl)⟩
  have O_is_count := ok_is_count (P := l.prog) (w := w) (Γ := (⟨fun x => List.lookup x [("BadMany", a_BadMany), ("BadLots", a_BadLots), ("BadGroup", a_BadGroup)], [(P_law, ("law.<locals>.<lambda>" : Str))], []⟩ : Clss)) (base := base) u_is_count T D_is_number
  have D_is_count : DefN l.prog w K (⟨fun x => List.lookup x [("BadMany", a_BadMany), ("BadLots", a_BadLots), ("BadGroup", a_BadGroup)], [(P_law, ("law.<locals>.<lambda>" : Str))], []⟩ : Clss) mg base 2 f_is_count ["value", "low", "most"] F_is_count := ⟨d_is_count, O_is_count, (u_is_count.binds fun _ _ _ _ _ _ us hl => match us, hl with | [_, _, _], _ => rfl)⟩
  have O_may_all_lie := ok_may_all_lie (P := l.prog) (w := w) (Γ := (⟨fun x => List.lookup x [("BadMany", a_BadMany), ("BadLots", a_BadLots), ("BadGroup", a_BadGroup)], [(P_law, ("law.<locals>.<lambda>" : Str))], []⟩ : Clss)) (base := base) u_may_all_lie T D_is_within
  have D_may_all_lie : DefN l.prog w K (⟨fun x => List.lookup x [("BadMany", a_BadMany), ("BadLots", a_BadLots), ("BadGroup", a_BadGroup)], [(P_law, ("law.<locals>.<lambda>" : Str))], []⟩ : Clss) mg base 2 f_may_all_lie ["lots", "group"] F_may_all_lie := ⟨d_may_all_lie, O_may_all_lie, (u_may_all_lie.binds fun _ _ _ _ _ _ us hl => match us, hl with | [_, _], _ => rfl)⟩
  have O_three_by := ok_three_by (P := l.prog) (w := w) (Γ := (⟨fun x => List.lookup x [("BadMany", a_BadMany), ("BadLots", a_BadLots), ("BadGroup", a_BadGroup)], [(P_law, ("law.<locals>.<lambda>" : Str))], []⟩ : Clss)) (base := base) u_three_by T D_triples_of D_all_of
  have D_three_by : DefN l.prog w K (⟨fun x => List.lookup x [("BadMany", a_BadMany), ("BadLots", a_BadLots), ("BadGroup", a_BadGroup)], [(P_law, ("law.<locals>.<lambda>" : Str))], []⟩ : Clss) mg base 2 f_three_by ["many", "lots"] F_three_by := ⟨d_three_by, O_three_by, (u_three_by.binds fun _ _ _ _ _ _ us hl => match us, hl with | [_, _], _ => rfl)⟩
  have O__law_draw := ok__law_draw (P := l.prog) (w := w) (Γ := (⟨fun x => List.lookup x [("BadMany", a_BadMany), ("BadLots", a_BadLots), ("BadGroup", a_BadGroup)], [(P_law, ("law.<locals>.<lambda>" : Str))], []⟩ : Clss)) (base := base) u__law_draw T D__law_blended
  have D__law_draw : DefN l.prog w K (⟨fun x => List.lookup x [("BadMany", a_BadMany), ("BadLots", a_BadLots), ("BadGroup", a_BadGroup)], [(P_law, ("law.<locals>.<lambda>" : Str))], []⟩ : Clss) mg base 2 f__law_draw ["state", "size_here"] F__law_draw := ⟨d__law_draw, O__law_draw, (u__law_draw.binds fun _ _ _ _ _ _ us hl => match us, hl with | [_, _], _ => rfl)⟩
  have O__law_ll_may := ok__law_ll_may (P := l.prog) (w := w) (Γ := (⟨fun x => List.lookup x [("BadMany", a_BadMany), ("BadLots", a_BadLots), ("BadGroup", a_BadGroup)], [(P_law, ("law.<locals>.<lambda>" : Str))], []⟩ : Clss)) (base := base) u__law_ll_may T D__law_ll_within
  have D__law_ll_may : DefN l.prog w K (⟨fun x => List.lookup x [("BadMany", a_BadMany), ("BadLots", a_BadLots), ("BadGroup", a_BadGroup)], [(P_law, ("law.<locals>.<lambda>" : Str))], []⟩ : Clss) mg base 2 f__law_ll_may ["lots", "group"] F__law_ll_may := ⟨d__law_ll_may, O__law_ll_may, (u__law_ll_may.binds fun _ _ _ _ _ _ us hl => match us, hl with | [_, _], _ => rfl)⟩
  have O__law_ll_first := ok__law_ll_first (P := l.prog) (w := w) (Γ := (⟨fun x => List.lookup x [("BadMany", a_BadMany), ("BadLots", a_BadLots), ("BadGroup", a_BadGroup)], [(P_law, ("law.<locals>.<lambda>" : Str))], []⟩ : Clss)) (base := base) u__law_ll_first T D__law_ll_threes
  have D__law_ll_first : DefN l.prog w K (⟨fun x => List.lookup x [("BadMany", a_BadMany), ("BadLots", a_BadLots), ("BadGroup", a_BadGroup)], [(P_law, ("law.<locals>.<lambda>" : Str))], []⟩ : Clss) mg base 2 f__law_ll_first ["many", "lots"] F__law_ll_first := ⟨d__law_ll_first, O__law_ll_first, (u__law_ll_first.binds fun _ _ _ _ _ _ us hl => match us, hl with | [_, _], _ => rfl)⟩
  have O__law_ll_binds := ok__law_ll_binds (P := l.prog) (w := w) (Γ := (⟨fun x => List.lookup x [("BadMany", a_BadMany), ("BadLots", a_BadLots), ("BadGroup", a_BadGroup)], [(P_law, ("law.<locals>.<lambda>" : Str))], []⟩ : Clss)) (base := base) u__law_ll_binds T D__law_ll_rest D__law_ll_threes D__law_ll_within
  have D__law_ll_binds : DefN l.prog w K (⟨fun x => List.lookup x [("BadMany", a_BadMany), ("BadLots", a_BadLots), ("BadGroup", a_BadGroup)], [(P_law, ("law.<locals>.<lambda>" : Str))], []⟩ : Clss) mg base 2 f__law_ll_binds ["many", "lots", "group"] F__law_ll_binds := ⟨d__law_ll_binds, O__law_ll_binds, (u__law_ll_binds.binds fun _ _ _ _ _ _ us hl => match us, hl with | [_, _, _], _ => rfl)⟩
  have O_is_group := ok_is_group (P := l.prog) (w := w) (Γ := (⟨fun x => List.lookup x [("BadMany", a_BadMany), ("BadLots", a_BadLots), ("BadGroup", a_BadGroup)], [(P_law, ("law.<locals>.<lambda>" : Str))], []⟩ : Clss)) (base := base) u_is_group T D_is_count
  have D_is_group : DefN l.prog w K (⟨fun x => List.lookup x [("BadMany", a_BadMany), ("BadLots", a_BadLots), ("BadGroup", a_BadGroup)], [(P_law, ("law.<locals>.<lambda>" : Str))], []⟩ : Clss) mg base 3 f_is_group ["many", "value"] F_is_group := ⟨d_is_group, O_is_group, (u_is_group.binds fun _ _ _ _ _ _ us hl => match us, hl with | [_, _], _ => rfl)⟩
  have O_need_many := ok_need_many (P := l.prog) (w := w) (Γ := (⟨fun x => List.lookup x [("BadMany", a_BadMany), ("BadLots", a_BadLots), ("BadGroup", a_BadGroup)], [(P_law, ("law.<locals>.<lambda>" : Str))], []⟩ : Clss)) (base := base) u_need_many T D_is_count
  have D_need_many : DefN l.prog w K (⟨fun x => List.lookup x [("BadMany", a_BadMany), ("BadLots", a_BadLots), ("BadGroup", a_BadGroup)], [(P_law, ("law.<locals>.<lambda>" : Str))], []⟩ : Clss) mg base 3 f_need_many ["many"] F_need_many := ⟨d_need_many, O_need_many, (u_need_many.binds fun _ _ _ _ _ _ us hl => match us, hl with | [_], _ => rfl)⟩
  have DX_need_many : DefX l.prog w K (⟨fun x => List.lookup x [("BadMany", a_BadMany), ("BadLots", a_BadLots), ("BadGroup", a_BadGroup)], [(P_law, ("law.<locals>.<lambda>" : Str))], []⟩ : Clss) mg base 3 f_need_many ["many"] X_need_many := ⟨d_need_many, okx_need_many (P := l.prog) (w := w) (Γ := (⟨fun x => List.lookup x [("BadMany", a_BadMany), ("BadLots", a_BadLots), ("BadGroup", a_BadGroup)], [(P_law, ("law.<locals>.<lambda>" : Str))], []⟩ : Clss)) (base := base) u_need_many T gO D_is_count, (u_need_many.binds fun _ _ _ _ _ _ us hl => match us, hl with | [_], _ => rfl)⟩
  have O__law_pick := ok__law_pick (P := l.prog) (w := w) (Γ := (⟨fun x => List.lookup x [("BadMany", a_BadMany), ("BadLots", a_BadLots), ("BadGroup", a_BadGroup)], [(P_law, ("law.<locals>.<lambda>" : Str))], []⟩ : Clss)) (base := base) u__law_pick T D__law_draw
  have D__law_pick : DefN l.prog w K (⟨fun x => List.lookup x [("BadMany", a_BadMany), ("BadLots", a_BadLots), ("BadGroup", a_BadGroup)], [(P_law, ("law.<locals>.<lambda>" : Str))], []⟩ : Clss) mg base 3 f__law_pick ["state", "several"] F__law_pick := ⟨d__law_pick, O__law_pick, (u__law_pick.binds fun _ _ _ _ _ _ us hl => match us, hl with | [_, _], _ => rfl)⟩
  have O__law_mixed := ok__law_mixed (P := l.prog) (w := w) (Γ := (⟨fun x => List.lookup x [("BadMany", a_BadMany), ("BadLots", a_BadLots), ("BadGroup", a_BadGroup)], [(P_law, ("law.<locals>.<lambda>" : Str))], []⟩ : Clss)) (base := base) u__law_mixed T D__law_draw
  have D__law_mixed : DefN l.prog w K (⟨fun x => List.lookup x [("BadMany", a_BadMany), ("BadLots", a_BadLots), ("BadGroup", a_BadGroup)], [(P_law, ("law.<locals>.<lambda>" : Str))], []⟩ : Clss) mg base 3 f__law_mixed ["state", "several"] F__law_mixed := ⟨d__law_mixed, O__law_mixed, (u__law_mixed.binds fun _ _ _ _ _ _ us hl => match us, hl with | [_, _], _ => rfl)⟩
  have O__law_ll_group := ok__law_ll_group (P := l.prog) (w := w) (Γ := (⟨fun x => List.lookup x [("BadMany", a_BadMany), ("BadLots", a_BadLots), ("BadGroup", a_BadGroup)], [(P_law, ("law.<locals>.<lambda>" : Str))], []⟩ : Clss)) (base := base) u__law_ll_group T D__law_draw
  have D__law_ll_group : DefN l.prog w K (⟨fun x => List.lookup x [("BadMany", a_BadMany), ("BadLots", a_BadLots), ("BadGroup", a_BadGroup)], [(P_law, ("law.<locals>.<lambda>" : Str))], []⟩ : Clss) mg base 3 f__law_ll_group ["state", "many"] F__law_ll_group := ⟨d__law_ll_group, O__law_ll_group, (u__law_ll_group.binds fun _ _ _ _ _ _ us hl => match us, hl with | [_, _], _ => rfl)⟩
  have O_need_lots := ok_need_lots (P := l.prog) (w := w) (Γ := (⟨fun x => List.lookup x [("BadMany", a_BadMany), ("BadLots", a_BadLots), ("BadGroup", a_BadGroup)], [(P_law, ("law.<locals>.<lambda>" : Str))], []⟩ : Clss)) (base := base) u_need_lots T D_need_many D_is_group D_is_within
  have D_need_lots : DefN l.prog w K (⟨fun x => List.lookup x [("BadMany", a_BadMany), ("BadLots", a_BadLots), ("BadGroup", a_BadGroup)], [(P_law, ("law.<locals>.<lambda>" : Str))], []⟩ : Clss) mg base 4 f_need_lots ["many", "lots"] F_need_lots := ⟨d_need_lots, O_need_lots, (u_need_lots.binds fun _ _ _ _ _ _ us hl => match us, hl with | [_, _], _ => rfl)⟩
  have DX_need_lots : DefX l.prog w K (⟨fun x => List.lookup x [("BadMany", a_BadMany), ("BadLots", a_BadLots), ("BadGroup", a_BadGroup)], [(P_law, ("law.<locals>.<lambda>" : Str))], []⟩ : Clss) mg base 4 f_need_lots ["many", "lots"] X_need_lots := ⟨d_need_lots, okx_need_lots (P := l.prog) (w := w) (Γ := (⟨fun x => List.lookup x [("BadMany", a_BadMany), ("BadLots", a_BadLots), ("BadGroup", a_BadGroup)], [(P_law, ("law.<locals>.<lambda>" : Str))], []⟩ : Clss)) (base := base) u_need_lots T gO D_is_group D_is_within DX_need_many, (u_need_lots.binds fun _ _ _ _ _ _ us hl => match us, hl with | [_, _], _ => rfl)⟩
  have O_need_group := ok_need_group (P := l.prog) (w := w) (Γ := (⟨fun x => List.lookup x [("BadMany", a_BadMany), ("BadLots", a_BadLots), ("BadGroup", a_BadGroup)], [(P_law, ("law.<locals>.<lambda>" : Str))], []⟩ : Clss)) (base := base) u_need_group T D_is_group
  have D_need_group : DefN l.prog w K (⟨fun x => List.lookup x [("BadMany", a_BadMany), ("BadLots", a_BadLots), ("BadGroup", a_BadGroup)], [(P_law, ("law.<locals>.<lambda>" : Str))], []⟩ : Clss) mg base 4 f_need_group ["many", "group"] F_need_group := ⟨d_need_group, O_need_group, (u_need_group.binds fun _ _ _ _ _ _ us hl => match us, hl with | [_, _], _ => rfl)⟩
  have DX_need_group : DefX l.prog w K (⟨fun x => List.lookup x [("BadMany", a_BadMany), ("BadLots", a_BadLots), ("BadGroup", a_BadGroup)], [(P_law, ("law.<locals>.<lambda>" : Str))], []⟩ : Clss) mg base 4 f_need_group ["many", "group"] X_need_group := ⟨d_need_group, okx_need_group (P := l.prog) (w := w) (Γ := (⟨fun x => List.lookup x [("BadMany", a_BadMany), ("BadLots", a_BadLots), ("BadGroup", a_BadGroup)], [(P_law, ("law.<locals>.<lambda>" : Str))], []⟩ : Clss)) (base := base) u_need_group T gO D_is_group, (u_need_group.binds fun _ _ _ _ _ _ us hl => match us, hl with | [_, _], _ => rfl)⟩
  have O__law_ll_lots := ok__law_ll_lots (P := l.prog) (w := w) (Γ := (⟨fun x => List.lookup x [("BadMany", a_BadMany), ("BadLots", a_BadLots), ("BadGroup", a_BadGroup)], [(P_law, ("law.<locals>.<lambda>" : Str))], []⟩ : Clss)) (base := base) u__law_ll_lots T D__law_draw D__law_mixed D__law_ll_within
  have D__law_ll_lots : DefN l.prog w K (⟨fun x => List.lookup x [("BadMany", a_BadMany), ("BadLots", a_BadLots), ("BadGroup", a_BadGroup)], [(P_law, ("law.<locals>.<lambda>" : Str))], []⟩ : Clss) mg base 4 f__law_ll_lots ["state"] F__law_ll_lots := ⟨d__law_ll_lots, O__law_ll_lots, (u__law_ll_lots.binds fun _ _ _ _ _ _ us hl => match us, hl with | [_], _ => rfl)⟩
  have O__law_k23_bad := ok__law_k23_bad (P := l.prog) (w := w) (Γ := (⟨fun x => List.lookup x [("BadMany", a_BadMany), ("BadLots", a_BadLots), ("BadGroup", a_BadGroup)], [(P_law, ("law.<locals>.<lambda>" : Str))], []⟩ : Clss)) (base := base) u__law_k23_bad T D__law_pick
  have D__law_k23_bad : DefN l.prog w K (⟨fun x => List.lookup x [("BadMany", a_BadMany), ("BadLots", a_BadLots), ("BadGroup", a_BadGroup)], [(P_law, ("law.<locals>.<lambda>" : Str))], []⟩ : Clss) mg base 4 f__law_k23_bad ["state", "many"] F__law_k23_bad := ⟨d__law_k23_bad, O__law_k23_bad, (u__law_k23_bad.binds fun _ _ _ _ _ _ us hl => match us, hl with | [_, _], _ => rfl)⟩
  have O_may_lie := ok_may_lie (P := l.prog) (w := w) (Γ := (⟨fun x => List.lookup x [("BadMany", a_BadMany), ("BadLots", a_BadLots), ("BadGroup", a_BadGroup)], [(P_law, ("law.<locals>.<lambda>" : Str))], []⟩ : Clss)) (base := base) u_may_lie T D_need_lots D_need_group D_may_all_lie
  have D_may_lie : DefN l.prog w K (⟨fun x => List.lookup x [("BadMany", a_BadMany), ("BadLots", a_BadLots), ("BadGroup", a_BadGroup)], [(P_law, ("law.<locals>.<lambda>" : Str))], []⟩ : Clss) mg base 5 f_may_lie ["many", "lots", "group"] F_may_lie := ⟨d_may_lie, O_may_lie, (u_may_lie.binds fun _ _ _ _ _ _ us hl => match us, hl with | [_, _, _], _ => rfl)⟩
  have K_may_lie_2_1_0 : DefNK l.prog w K (⟨fun x => List.lookup x [("BadMany", a_BadMany), ("BadLots", a_BadLots), ("BadGroup", a_BadGroup)], [(P_law, ("law.<locals>.<lambda>" : Str))], []⟩ : Clss) mg base 5 f_may_lie ["many", "lots", "group"] ["group", "lots", "many"] 3 [2, 1, 0] F_may_lie := ⟨d_may_lie, O_may_lie, kb_may_lie_2_1_0 u_may_lie⟩
  have DX_may_lie : DefX l.prog w K (⟨fun x => List.lookup x [("BadMany", a_BadMany), ("BadLots", a_BadLots), ("BadGroup", a_BadGroup)], [(P_law, ("law.<locals>.<lambda>" : Str))], []⟩ : Clss) mg base 5 f_may_lie ["many", "lots", "group"] X_may_lie := ⟨d_may_lie, okx_may_lie (P := l.prog) (w := w) (Γ := (⟨fun x => List.lookup x [("BadMany", a_BadMany), ("BadLots", a_BadLots), ("BadGroup", a_BadGroup)], [(P_law, ("law.<locals>.<lambda>" : Str))], []⟩ : Clss)) (base := base) u_may_lie T gO DX_need_lots DX_need_group, (u_may_lie.binds fun _ _ _ _ _ _ us hl => match us, hl with | [_, _, _], _ => rfl)⟩
  have O_is_enough := ok_is_enough (P := l.prog) (w := w) (Γ := (⟨fun x => List.lookup x [("BadMany", a_BadMany), ("BadLots", a_BadLots), ("BadGroup", a_BadGroup)], [(P_law, ("law.<locals>.<lambda>" : Str))], []⟩ : Clss)) (base := base) u_is_enough T D_need_lots D_need_group D_may_all_lie D_others_of
  have D_is_enough : DefN l.prog w K (⟨fun x => List.lookup x [("BadMany", a_BadMany), ("BadLots", a_BadLots), ("BadGroup", a_BadGroup)], [(P_law, ("law.<locals>.<lambda>" : Str))], []⟩ : Clss) mg base 5 f_is_enough ["many", "lots", "group"] F_is_enough := ⟨d_is_enough, O_is_enough, (u_is_enough.binds fun _ _ _ _ _ _ us hl => match us, hl with | [_, _, _], _ => rfl)⟩
  have K_is_enough_2_1_0 : DefNK l.prog w K (⟨fun x => List.lookup x [("BadMany", a_BadMany), ("BadLots", a_BadLots), ("BadGroup", a_BadGroup)], [(P_law, ("law.<locals>.<lambda>" : Str))], []⟩ : Clss) mg base 5 f_is_enough ["many", "lots", "group"] ["group", "lots", "many"] 3 [2, 1, 0] F_is_enough := ⟨d_is_enough, O_is_enough, kb_is_enough_2_1_0 u_is_enough⟩
  have DX_is_enough : DefX l.prog w K (⟨fun x => List.lookup x [("BadMany", a_BadMany), ("BadLots", a_BadLots), ("BadGroup", a_BadGroup)], [(P_law, ("law.<locals>.<lambda>" : Str))], []⟩ : Clss) mg base 5 f_is_enough ["many", "lots", "group"] X_is_enough := ⟨d_is_enough, okx_is_enough (P := l.prog) (w := w) (Γ := (⟨fun x => List.lookup x [("BadMany", a_BadMany), ("BadLots", a_BadLots), ("BadGroup", a_BadGroup)], [(P_law, ("law.<locals>.<lambda>" : Str))], []⟩ : Clss)) (base := base) u_is_enough T gO DX_need_lots DX_need_group, (u_is_enough.binds fun _ _ _ _ _ _ us hl => match us, hl with | [_, _, _], _ => rfl)⟩
  have O_three_lots := ok_three_lots (P := l.prog) (w := w) (Γ := (⟨fun x => List.lookup x [("BadMany", a_BadMany), ("BadLots", a_BadLots), ("BadGroup", a_BadGroup)], [(P_law, ("law.<locals>.<lambda>" : Str))], []⟩ : Clss)) (base := base) u_three_lots T D_need_lots D_three_by
  have D_three_lots : DefN l.prog w K (⟨fun x => List.lookup x [("BadMany", a_BadMany), ("BadLots", a_BadLots), ("BadGroup", a_BadGroup)], [(P_law, ("law.<locals>.<lambda>" : Str))], []⟩ : Clss) mg base 5 f_three_lots ["many", "lots"] F_three_lots := ⟨d_three_lots, O_three_lots, (u_three_lots.binds fun _ _ _ _ _ _ us hl => match us, hl with | [_, _], _ => rfl)⟩
  have K_three_lots_1_0 : DefNK l.prog w K (⟨fun x => List.lookup x [("BadMany", a_BadMany), ("BadLots", a_BadLots), ("BadGroup", a_BadGroup)], [(P_law, ("law.<locals>.<lambda>" : Str))], []⟩ : Clss) mg base 5 f_three_lots ["many", "lots"] ["lots", "many"] 2 [1, 0] F_three_lots := ⟨d_three_lots, O_three_lots, kb_three_lots_1_0 u_three_lots⟩
  have DX_three_lots : DefX l.prog w K (⟨fun x => List.lookup x [("BadMany", a_BadMany), ("BadLots", a_BadLots), ("BadGroup", a_BadGroup)], [(P_law, ("law.<locals>.<lambda>" : Str))], []⟩ : Clss) mg base 5 f_three_lots ["many", "lots"] X_three_lots := ⟨d_three_lots, okx_three_lots (P := l.prog) (w := w) (Γ := (⟨fun x => List.lookup x [("BadMany", a_BadMany), ("BadLots", a_BadLots), ("BadGroup", a_BadGroup)], [(P_law, ("law.<locals>.<lambda>" : Str))], []⟩ : Clss)) (base := base) u_three_lots T gO DX_need_lots, (u_three_lots.binds fun _ _ _ _ _ _ us hl => match us, hl with | [_, _], _ => rfl)⟩
  have O_is_binding := ok_is_binding (P := l.prog) (w := w) (Γ := (⟨fun x => List.lookup x [("BadMany", a_BadMany), ("BadLots", a_BadLots), ("BadGroup", a_BadGroup)], [(P_law, ("law.<locals>.<lambda>" : Str))], []⟩ : Clss)) (base := base) u_is_binding T D_need_lots D_need_group D_others_of D_triples_of D_is_within D_all_of
  have D_is_binding : DefN l.prog w K (⟨fun x => List.lookup x [("BadMany", a_BadMany), ("BadLots", a_BadLots), ("BadGroup", a_BadGroup)], [(P_law, ("law.<locals>.<lambda>" : Str))], []⟩ : Clss) mg base 5 f_is_binding ["many", "lots", "group"] F_is_binding := ⟨d_is_binding, O_is_binding, (u_is_binding.binds fun _ _ _ _ _ _ us hl => match us, hl with | [_, _, _], _ => rfl)⟩
  have K_is_binding_2_1_0 : DefNK l.prog w K (⟨fun x => List.lookup x [("BadMany", a_BadMany), ("BadLots", a_BadLots), ("BadGroup", a_BadGroup)], [(P_law, ("law.<locals>.<lambda>" : Str))], []⟩ : Clss) mg base 5 f_is_binding ["many", "lots", "group"] ["group", "lots", "many"] 3 [2, 1, 0] F_is_binding := ⟨d_is_binding, O_is_binding, kb_is_binding_2_1_0 u_is_binding⟩
  have DX_is_binding : DefX l.prog w K (⟨fun x => List.lookup x [("BadMany", a_BadMany), ("BadLots", a_BadLots), ("BadGroup", a_BadGroup)], [(P_law, ("law.<locals>.<lambda>" : Str))], []⟩ : Clss) mg base 5 f_is_binding ["many", "lots", "group"] X_is_binding := ⟨d_is_binding, okx_is_binding (P := l.prog) (w := w) (Γ := (⟨fun x => List.lookup x [("BadMany", a_BadMany), ("BadLots", a_BadLots), ("BadGroup", a_BadGroup)], [(P_law, ("law.<locals>.<lambda>" : Str))], []⟩ : Clss)) (base := base) u_is_binding T gO DX_need_lots DX_need_group, (u_is_binding.binds fun _ _ _ _ _ _ us hl => match us, hl with | [_, _, _], _ => rfl)⟩
  have O_crossing_votes := ok_crossing_votes (P := l.prog) (w := w) (Γ := (⟨fun x => List.lookup x [("BadMany", a_BadMany), ("BadLots", a_BadLots), ("BadGroup", a_BadGroup)], [(P_law, ("law.<locals>.<lambda>" : Str))], []⟩ : Clss)) (base := base) u_crossing_votes T D_need_lots D_three_by D_others_of
  have D_crossing_votes : DefN l.prog w K (⟨fun x => List.lookup x [("BadMany", a_BadMany), ("BadLots", a_BadLots), ("BadGroup", a_BadGroup)], [(P_law, ("law.<locals>.<lambda>" : Str))], []⟩ : Clss) mg base 5 f_crossing_votes ["many", "lots"] F_crossing_votes := ⟨d_crossing_votes, O_crossing_votes, (u_crossing_votes.binds fun _ _ _ _ _ _ us hl => match us, hl with | [_, _], _ => rfl)⟩
  have DX_crossing_votes : DefX l.prog w K (⟨fun x => List.lookup x [("BadMany", a_BadMany), ("BadLots", a_BadLots), ("BadGroup", a_BadGroup)], [(P_law, ("law.<locals>.<lambda>" : Str))], []⟩ : Clss) mg base 5 f_crossing_votes ["many", "lots"] X_crossing_votes := ⟨d_crossing_votes, okx_crossing_votes (P := l.prog) (w := w) (Γ := (⟨fun x => List.lookup x [("BadMany", a_BadMany), ("BadLots", a_BadLots), ("BadGroup", a_BadGroup)], [(P_law, ("law.<locals>.<lambda>" : Str))], []⟩ : Clss)) (base := base) u_crossing_votes T gO DX_need_lots, (u_crossing_votes.binds fun _ _ _ _ _ _ us hl => match us, hl with | [_, _], _ => rfl)⟩
  have O_is_crossing_votes := ok_is_crossing_votes (P := l.prog) (w := w) (Γ := (⟨fun x => List.lookup x [("BadMany", a_BadMany), ("BadLots", a_BadLots), ("BadGroup", a_BadGroup)], [(P_law, ("law.<locals>.<lambda>" : Str))], []⟩ : Clss)) (base := base) u_is_crossing_votes T D_need_lots D_is_group D_may_all_lie D_others_of D_is_within D_meeting
  have D_is_crossing_votes : DefN l.prog w K (⟨fun x => List.lookup x [("BadMany", a_BadMany), ("BadLots", a_BadLots), ("BadGroup", a_BadGroup)], [(P_law, ("law.<locals>.<lambda>" : Str))], []⟩ : Clss) mg base 5 f_is_crossing_votes ["many", "lots", "value"] F_is_crossing_votes := ⟨d_is_crossing_votes, O_is_crossing_votes, (u_is_crossing_votes.binds fun _ _ _ _ _ _ us hl => match us, hl with | [_, _, _], _ => rfl)⟩
  have DX_is_crossing_votes : DefX l.prog w K (⟨fun x => List.lookup x [("BadMany", a_BadMany), ("BadLots", a_BadLots), ("BadGroup", a_BadGroup)], [(P_law, ("law.<locals>.<lambda>" : Str))], []⟩ : Clss) mg base 5 f_is_crossing_votes ["many", "lots", "value"] X_is_crossing_votes := ⟨d_is_crossing_votes, okx_is_crossing_votes (P := l.prog) (w := w) (Γ := (⟨fun x => List.lookup x [("BadMany", a_BadMany), ("BadLots", a_BadLots), ("BadGroup", a_BadGroup)], [(P_law, ("law.<locals>.<lambda>" : Str))], []⟩ : Clss)) (base := base) u_is_crossing_votes T gO DX_need_lots, (u_is_crossing_votes.binds fun _ _ _ _ _ _ us hl => match us, hl with | [_, _, _], _ => rfl)⟩
  have O_need_family := ok_need_family (P := l.prog) (w := w) (Γ := (⟨fun x => List.lookup x [("BadMany", a_BadMany), ("BadLots", a_BadLots), ("BadGroup", a_BadGroup)], [(P_law, ("law.<locals>.<lambda>" : Str))], []⟩ : Clss)) (base := base) u_need_family T D_need_lots D_is_group
  have D_need_family : DefN l.prog w K (⟨fun x => List.lookup x [("BadMany", a_BadMany), ("BadLots", a_BadLots), ("BadGroup", a_BadGroup)], [(P_law, ("law.<locals>.<lambda>" : Str))], []⟩ : Clss) mg base 5 f_need_family ["many", "lots", "family"] F_need_family := ⟨d_need_family, O_need_family, (u_need_family.binds fun _ _ _ _ _ _ us hl => match us, hl with | [_, _, _], _ => rfl)⟩
  have DX_need_family : DefX l.prog w K (⟨fun x => List.lookup x [("BadMany", a_BadMany), ("BadLots", a_BadLots), ("BadGroup", a_BadGroup)], [(P_law, ("law.<locals>.<lambda>" : Str))], []⟩ : Clss) mg base 5 f_need_family ["many", "lots", "family"] X_need_family := ⟨d_need_family, okx_need_family (P := l.prog) (w := w) (Γ := (⟨fun x => List.lookup x [("BadMany", a_BadMany), ("BadLots", a_BadLots), ("BadGroup", a_BadGroup)], [(P_law, ("law.<locals>.<lambda>" : Str))], []⟩ : Clss)) (base := base) u_need_family T gO DX_need_lots, (u_need_family.binds fun _ _ _ _ _ _ us hl => match us, hl with | [_, _, _], _ => rfl)⟩
  have O_enough_groups := ok_enough_groups (P := l.prog) (w := w) (Γ := (⟨fun x => List.lookup x [("BadMany", a_BadMany), ("BadLots", a_BadLots), ("BadGroup", a_BadGroup)], [(P_law, ("law.<locals>.<lambda>" : Str))], []⟩ : Clss)) (base := base) u_enough_groups T D_need_lots D_others_of
  have D_enough_groups : DefN l.prog w K (⟨fun x => List.lookup x [("BadMany", a_BadMany), ("BadLots", a_BadLots), ("BadGroup", a_BadGroup)], [(P_law, ("law.<locals>.<lambda>" : Str))], []⟩ : Clss) mg base 5 f_enough_groups ["many", "lots"] F_enough_groups := ⟨d_enough_groups, O_enough_groups, (u_enough_groups.binds fun _ _ _ _ _ _ us hl => match us, hl with | [_, _], _ => rfl)⟩
  have K_enough_groups_1_0 : DefNK l.prog w K (⟨fun x => List.lookup x [("BadMany", a_BadMany), ("BadLots", a_BadLots), ("BadGroup", a_BadGroup)], [(P_law, ("law.<locals>.<lambda>" : Str))], []⟩ : Clss) mg base 5 f_enough_groups ["many", "lots"] ["lots", "many"] 2 [1, 0] F_enough_groups := ⟨d_enough_groups, O_enough_groups, kb_enough_groups_1_0 u_enough_groups⟩
  have DX_enough_groups : DefX l.prog w K (⟨fun x => List.lookup x [("BadMany", a_BadMany), ("BadLots", a_BadLots), ("BadGroup", a_BadGroup)], [(P_law, ("law.<locals>.<lambda>" : Str))], []⟩ : Clss) mg base 5 f_enough_groups ["many", "lots"] X_enough_groups := ⟨d_enough_groups, okx_enough_groups (P := l.prog) (w := w) (Γ := (⟨fun x => List.lookup x [("BadMany", a_BadMany), ("BadLots", a_BadLots), ("BadGroup", a_BadGroup)], [(P_law, ("law.<locals>.<lambda>" : Str))], []⟩ : Clss)) (base := base) u_enough_groups T gO DX_need_lots, (u_enough_groups.binds fun _ _ _ _ _ _ us hl => match us, hl with | [_, _], _ => rfl)⟩
  have O_is_live := ok_is_live (P := l.prog) (w := w) (Γ := (⟨fun x => List.lookup x [("BadMany", a_BadMany), ("BadLots", a_BadLots), ("BadGroup", a_BadGroup)], [(P_law, ("law.<locals>.<lambda>" : Str))], []⟩ : Clss)) (base := base) u_is_live T D_need_family D_meeting
  have D_is_live : DefN l.prog w K (⟨fun x => List.lookup x [("BadMany", a_BadMany), ("BadLots", a_BadLots), ("BadGroup", a_BadGroup)], [(P_law, ("law.<locals>.<lambda>" : Str))], []⟩ : Clss) mg base 6 f_is_live ["many", "lots", "family"] F_is_live := ⟨d_is_live, O_is_live, (u_is_live.binds fun _ _ _ _ _ _ us hl => match us, hl with | [_, _, _], _ => rfl)⟩
  have DX_is_live : DefX l.prog w K (⟨fun x => List.lookup x [("BadMany", a_BadMany), ("BadLots", a_BadLots), ("BadGroup", a_BadGroup)], [(P_law, ("law.<locals>.<lambda>" : Str))], []⟩ : Clss) mg base 6 f_is_live ["many", "lots", "family"] X_is_live := ⟨d_is_live, okx_is_live (P := l.prog) (w := w) (Γ := (⟨fun x => List.lookup x [("BadMany", a_BadMany), ("BadLots", a_BadLots), ("BadGroup", a_BadGroup)], [(P_law, ("law.<locals>.<lambda>" : Str))], []⟩ : Clss)) (base := base) u_is_live T gO DX_need_family, (u_is_live.binds fun _ _ _ _ _ _ us hl => match us, hl with | [_, _, _], _ => rfl)⟩
  exact ok_law u_law TB rfl T gO D__law_begun D__law_ll_lots D__law_ll_first D__law_ll_rest D__law_ll_group D__law_ll_may D__law_ll_binds D__law_is_truth D_is_enough D_is_binding D__law_pick D__law_k23_bad K_three_lots_1_0 K_enough_groups_1_0 K_may_lie_2_1_0 K_is_enough_2_1_0 K_is_binding_2_1_0 DX_may_lie DX_is_enough DX_is_binding DX_is_crossing_votes DX_is_live DX_three_lots DX_enough_groups DX_crossing_votes DK u__law_caught B__law_caught
theorem walk {l : PySem.W.OpenLaw} {q : Program} {loose : List Str} {XP : (Str → Option Value) → Heap → Prop} {YP : World → Heap → Prop} {d : DefRec} {K : Params → PySem.W.Frag} (hn : l.most = some 63) (hdf : d.params.defaults = []) (hY : ∀ (w : World) (h : Heap), YP w h → (K w.params).In h)
    (F : ∀ (w : World) (mg : Str → Option Value) (fa : Addr) (h : Heap), YP w h → (K w.params).In h → h.Ns mainGlobals mg → XP mg h → mg d.name = some (.ref fa) → LawAtC l w (K w.params) "script" mg fa h) :
    PySem.W.WalkO q loose XP YP l.row.toRowW d [] (fun f vs => PySem.call f vs) :=
  walk_ofXC (x := "script") hn hdf hY F
end K23

set_option autoImplicit false
/-! What the functions of the program and of the law give. -/
namespace K23
open PySem L2 Sim
abbrev tupsD (L : List (List Int)) : D := .tup (L.map tupI)
abbrev big : Int := 1000000000000000000
theorem isi_int (i : Int) (μ : Store) : isiC [.int i, .ty "int"] μ = .ok (.bl true) μ := rfl
theorem isi_bool (i : Int) (μ : Store) : isiC [.int i, .ty "bool"] μ = .ok (.bl false) μ := rfl
theorem isi_tup (ds : List D) (μ : Store) : isiC [.tup ds, .ty "tuple"] μ = .ok (.bl true) μ := rfl
theorem e_is_number (i lo : Int) (μ : Store) : F_is_number [.int i, .int lo] μ = .ok (.bl (decide (lo ≤ i) && decide (i < big))) μ := by
  refine trimP_id ?_
  by_cases h : lo ≤ i
  · simp [fnG, outR, seqG, setG, retG, thenS, dropG, iteG, nmF, tpF, consF, nilF, vG, cG, opG, unG, caG, cLG, consG, nilG, tupG, andG, orG, notG, blG, ifG, chainG, tB1, andB, orB, notB, yesB, callG, bnd, wipeD, nextG, allocG, lstG, cLLG, cVLG, cQG, cVG, tupC, retNG, G_is_number, isi_int, isi_bool, leD_int, ltD_int, h]
  · simp [fnG, outR, seqG, setG, retG, thenS, dropG, iteG, nmF, tpF, consF, nilF, vG, cG, opG, unG, caG, cLG, consG, nilG, tupG, andG, orG, notG, blG, ifG, chainG, tB1, andB, orB, notB, yesB, callG, bnd, wipeD, nextG, allocG, lstG, cLLG, cVLG, cQG, cVG, tupC, retNG, G_is_number, isi_int, isi_bool, leD_int, ltD_int, h]
theorem e_is_count (i lo hi : Int) (μ : Store) : F_is_count [.int i, .int lo, .int hi] μ = .ok (.bl ((decide (lo ≤ i) && decide (i < big)) && decide (i ≤ hi))) μ := by
  refine trimP_id ?_
  by_cases h : lo ≤ i ∧ i < big
  · simp [fnG, outR, seqG, setG, retG, thenS, dropG, iteG, nmF, tpF, consF, nilF, vG, cG, opG, unG, caG, cLG, consG, nilG, tupG, andG, orG, notG, blG, ifG, chainG, tB1, andB, orB, notB, yesB, callG, bnd, wipeD, nextG, allocG, lstG, cLLG, cVLG, cQG, cVG, tupC, retNG, G_is_count, e_is_number, leD_int, h.1, h.2]
  · have h' : (decide (lo ≤ i) && decide (i < big)) = false := by rw [← Bool.decide_and]; exact decide_eq_false h
    simp [fnG, outR, seqG, setG, retG, thenS, dropG, iteG, nmF, tpF, consF, nilF, vG, cG, opG, unG, caG, cLG, consG, nilG, tupG, andG, orG, notG, blG, ifG, chainG, tB1, andB, orB, notB, yesB, callG, bnd, wipeD, nextG, allocG, lstG, cLLG, cVLG, cQG, cVG, tupC, retNG, G_is_count, e_is_number, leD_int, h', -Bool.decide_and, -Bool.and_eq_false_imp]
theorem cut1 {α : Type} (xs : List α) : cutD xs (some 1) none = xs.drop 1 := by
  unfold cutD
  rw [HT.sIx_none]
  have e : HT.sIx xs.length 0 (some 1) = min 1 xs.length := HT.sIx_nat xs.length 0 1
  rw [e]
  cases xs with
  | nil => rfl
  | cons x xs => simp
theorem cutFrom {α : Type} (xs : List α) (n : Nat) : cutD xs (some (n : Int)) none = xs.drop n := by
  unfold cutD
  rw [HT.sIx_none, HT.sIx_nat]
  by_cases h : n ≤ xs.length
  · rw [Nat.min_eq_left h, List.take_of_length_le (by rw [List.length_drop]; omega)]
  · rw [Nat.min_eq_right (by omega), List.drop_eq_nil_of_le (Nat.le_refl _), List.drop_eq_nil_of_le (by omega)]; simp
theorem zipOf_map {α : Type} (e : α → D) (xs ys : List α) : zipOf (xs.map e) (ys.map e) = (xs.zip ys).map fun p => .tup [e p.1, e p.2] := by
  unfold zipOf
  rw [List.zip_map, List.map_map]; rfl
/-- neighbours in order -/
def ascB {α : Type} (lt : α → α → Bool) (k : List α) : Bool := (k.zip (k.drop 1)).all fun p => lt p.1 p.2
theorem ascB_of {α : Type} {lt : α → α → Bool} : ∀ {k : List α}, k.Pairwise (fun a b => lt a b = true) → ascB lt k = true
  | [], _ => rfl
  | [_], _ => rfl
  | a :: b :: k, h => by
    obtain ⟨h1, h2⟩ := List.pairwise_cons.mp h
    have ih := ascB_of h2
    unfold ascB at ih ⊢
    simp only [List.drop_one, List.tail_cons, List.zip_cons_cons, List.all_cons, Bool.and_eq_true] at ih ⊢
    exact ⟨h1 b List.mem_cons_self, ih⟩
def inRange (many : Int) (k : List Int) : Bool := k.all fun x => (decide (0 ≤ x) && decide (x < big)) && decide (x ≤ many - 1)
theorem e_is_group (many : Int) (k : List Int) (μ : Store) : F_is_group [.int many, tupI k] μ = .ok (.bl (inRange many k && ascB (fun a b => decide (a < b)) k)) μ := by
  refine trimP_id ?_
  have h1 : lcG [2] (srcG (vG 1)) (nmF 2) yesB (callG F_is_count (consG (vG 2) (consG (cG (.int 0)) (consG (opG subD (vG 0) (cG (.int 1))) nilG)))) [some (.int many), some (tupI k), none, none] μ = .ok ((k.map fun x => (decide (0 ≤ x) && decide (x < big)) && decide (x ≤ many - 1)).map D.bl) μ := by
    rw [lcG_map (own := [2]) D.int (fun x => D.bl ((decide (0 ≤ x) && decide (x < big)) && decide (x ≤ many - 1))) k (chk := fun _ => true) (srcG_tup (vG_at rfl)) rfl fun x _ => ⟨_, rfl, by simp [fnG, outR, seqG, setG, retG, thenS, dropG, iteG, nmF, tpF, consF, nilF, vG, cG, opG, unG, caG, cLG, consG, nilG, tupG, andG, orG, notG, blG, ifG, chainG, tB1, andB, orB, notB, yesB, callG, bnd, wipeD, nextG, allocG, lstG, cLLG, cVLG, cQG, cVG, tupC, retNG, e_is_count, subD_int]⟩]
    rw [List.map_map]; rfl
  have h2 : lcG [2, 3] (zipG (consG (vG 1) (consG (slTG (vG 1) (partG (cG (.int 1))) noPartG) nilG))) (tpF 2 (consF (nmF 2) (consF (nmF 3) nilF))) yesB (opG ltD (vG 2) (vG 3)) [some (.int many), some (tupI k), none, none] μ = .ok (((k.zip (k.drop 1)).map fun p => decide (p.1 < p.2)).map D.bl) μ := by
    rw [lcG_map (own := [2, 3]) (fun p : Int × Int => D.tup [.int p.1, .int p.2]) (fun p => D.bl (decide (p.1 < p.2))) (k.zip (k.drop 1)) (chk := fun _ => true) ?_ rfl fun x _ => ⟨_, rfl, by simp [fnG, outR, seqG, setG, retG, thenS, dropG, iteG, nmF, tpF, consF, nilF, vG, cG, opG, unG, caG, cLG, consG, nilG, tupG, andG, orG, notG, blG, ifG, chainG, tB1, andB, orB, notB, yesB, callG, bnd, wipeD, nextG, allocG, lstG, cLLG, cVLG, cQG, cVG, tupC, retNG, ltD_int]⟩]
    · rw [List.map_map]; rfl
    · simp [fnG, outR, seqG, setG, retG, thenS, dropG, iteG, nmF, tpF, consF, nilF, vG, cG, opG, unG, caG, cLG, consG, nilG, tupG, andG, orG, notG, blG, ifG, chainG, tB1, andB, orB, notB, yesB, callG, bnd, wipeD, nextG, allocG, lstG, cLLG, cVLG, cQG, cVG, tupC, retNG, zipG, slTG, partG, noPartG, tupI, zipS, cut1]
      rw [← List.map_tail, zipOf_map]
  have e1 : allC ((k.map fun x => (decide (0 ≤ x) && decide (x < big)) && decide (x ≤ many - 1)).map D.bl) μ = .ok (.bl (inRange many k)) μ := by
    rw [allC_map, List.all_map]; rfl
  have e2 : allC (((k.zip (k.drop 1)).map fun p => decide (p.1 < p.2)).map D.bl) μ = .ok (.bl (ascB (fun a b => decide (a < b)) k)) μ := by
    rw [allC_map, List.all_map]; rfl
  have c0 : caG isiC (consG (vG 1) (consG (cG (.ty "tuple")) nilG)) [some (.int many), some (tupI k), none, none] μ = .ok (.bl true) μ := rfl
  have c1 := (cLG_ok (g := allC) h1).trans e1
  have c2 := (cLG_ok (g := allC) h2).trans e2
  have c3 := orB_ok (notB_ok (tB1_ok c0)) fun _ => notB_ok (tB1_ok c1)
  cases hr : inRange many k with
  | false =>
    rw [hr] at c3
    exact fnG_rt ((seqG_rt ((iteG_t c3).trans (retG_ok rfl))))
  | true =>
    rw [hr] at c3
    exact fnG_rt ((seqG_nx (iteG_f c3)).trans (retG_ok c2))
end K23

set_option autoImplicit false
/-! The functions of the program, at what the law hands them. -/
namespace K23
open PySem L2 Sim
def within (a b : List Int) : Bool := a.all fun x => decide (x ∈ b)
theorem within_iff {a b : List Int} : within a b = true ↔ ∀ x ∈ a, x ∈ b := by
  unfold within
  rw [List.all_eq_true]
  exact ⟨fun h x hx => of_decide_eq_true (h x hx), fun h x hx => decide_eq_true (h x hx)⟩
theorem e_is_within (a b : List Int) (μ : Store) : F_is_within [tupI a, tupI b] μ = .ok (.bl (within a b)) μ := by
  refine trimP_id (fnG_rt (retG_ok ?_))
  refine (cLG_ok (g := allC) (xs := (a.map fun x => decide (x ∈ b)).map D.bl) (μ1 := μ) ?_).trans ?_
  · rw [lcG_map (own := [2]) D.int (fun x => D.bl (decide (x ∈ b))) a (chk := fun _ => true) (srcG_tup (vG_at rfl)) rfl fun x _ => ⟨_, rfl, by simp [fnG, outR, seqG, setG, retG, thenS, dropG, iteG, nmF, tpF, consF, nilF, vG, cG, opG, unG, caG, cLG, consG, nilG, tupG, andG, orG, notG, blG, ifG, chainG, tB1, andB, orB, notB, yesB, callG, bnd, wipeD, nextG, allocG, lstG, cLLG, cVLG, cQG, cVG, tupC, retNG, inD_tup]⟩]
    rw [List.map_map]; rfl
  · rw [allC_map, List.all_map]; rfl
def grpB (many : Int) (k : List Int) : Bool := inRange many k && ascB (fun a b => decide (a < b)) k
theorem e_need_many {m : Nat} (h : 1 ≤ m ∧ m ≤ 7) (μ : Store) : F_need_many [.int m] μ = .ok .non μ := by
  refine trimP_id ?_
  have h1 : (1 : Int) ≤ m := by omega
  have h2 : (m : Int) < big := by show (m : Int) < 1000000000000000000; omega
  have h3 : (m : Int) ≤ 7 := by omega
  simp [fnG, outR, seqG, setG, retG, thenS, dropG, iteG, nmF, tpF, consF, nilF, vG, cG, opG, unG, caG, cLG, consG, nilG, tupG, andG, orG, notG, blG, ifG, chainG, tB1, andB, orB, notB, yesB, callG, bnd, wipeD, nextG, allocG, lstG, cLLG, cVLG, cQG, cVG, tupC, retNG, G_need_many, e_is_count, h1, h2, h3]
theorem e_need_group {m : Nat} {k : List Int} (h : grpB m k = true) (μ : Store) : F_need_group [.int m, tupI k] μ = .ok .non μ := by
  refine trimP_id ?_
  unfold grpB at h
  simp [fnG, outR, seqG, setG, retG, thenS, dropG, iteG, nmF, tpF, consF, nilF, vG, cG, opG, unG, caG, cLG, consG, nilG, tupG, andG, orG, notG, blG, ifG, chainG, tB1, andB, orB, notB, yesB, callG, bnd, wipeD, nextG, allocG, lstG, cLLG, cVLG, cQG, cVG, tupC, retNG, G_need_group, e_is_group, h, -Bool.and_eq_true]
structure LotsOk (m : Nat) (L : List (List Int)) : Prop where
  lo : 1 ≤ m
  hi : m ≤ 7
  ne : L ≠ []
  len : L.length ≤ 64
  grp : ∀ l ∈ L, grpB m l = true
  asc : ascB (fun a b : List Int => decide (a < b)) L = true
  anti : ∀ a ∈ L, ∀ b ∈ L, a ≠ b → within a b = false
theorem e_need_lots {m : Nat} {L : List (List Int)} (h : LotsOk m L) (μ : Store) : F_need_lots [.int m, tupsD L] μ = .ok .non μ := by
  refine trimP_id ?_
  have h1 : lcG [4] (srcG (vG 1)) (nmF 4) yesB (callG F_is_group (consG (vG 0) (consG (vG 4) nilG))) [some (.int m), some (tupsD L), none, none, none] μ = .ok ((L.map fun l => grpB m l).map D.bl) μ := by
    rw [lcG_map (own := [4]) tupI (fun l => D.bl (grpB m l)) L (chk := fun _ => true) (srcG_tup (vG_at rfl)) rfl fun x _ => ⟨_, rfl, by simp [fnG, outR, seqG, setG, retG, thenS, dropG, iteG, nmF, tpF, consF, nilF, vG, cG, opG, unG, caG, cLG, consG, nilG, tupG, andG, orG, notG, blG, ifG, chainG, tB1, andB, orB, notB, yesB, callG, bnd, wipeD, nextG, allocG, lstG, cLLG, cVLG, cQG, cVG, tupC, retNG, e_is_group]; rfl⟩]
    rw [List.map_map]; rfl
  have h2 : lcG [2, 3] (zipG (consG (vG 1) (consG (slTG (vG 1) (partG (cG (.int 1))) noPartG) nilG))) (tpF 2 (consF (nmF 2) (consF (nmF 3) nilF))) yesB (opG ltD (vG 2) (vG 3)) [some (.int m), some (tupsD L), none, none, none] μ = .ok (((L.zip (L.drop 1)).map fun p => decide (p.1 < p.2)).map D.bl) μ := by
    rw [lcG_map (own := [2, 3]) (fun p : List Int × List Int => D.tup [tupI p.1, tupI p.2]) (fun p => D.bl (decide (p.1 < p.2))) (L.zip (L.drop 1)) (chk := fun _ => true) ?_ rfl fun x _ => ⟨_, rfl, by simp [fnG, outR, seqG, setG, retG, thenS, dropG, iteG, nmF, tpF, consF, nilF, vG, cG, opG, unG, caG, cLG, consG, nilG, tupG, andG, orG, notG, blG, ifG, chainG, tB1, andB, orB, notB, yesB, callG, bnd, wipeD, nextG, allocG, lstG, cLLG, cVLG, cQG, cVG, tupC, retNG, ltD_tup]⟩]
    · rw [List.map_map]; rfl
    · simp [fnG, outR, seqG, setG, retG, thenS, dropG, iteG, nmF, tpF, consF, nilF, vG, cG, opG, unG, caG, cLG, consG, nilG, tupG, andG, orG, notG, blG, ifG, chainG, tB1, andB, orB, notB, yesB, callG, bnd, wipeD, nextG, allocG, lstG, cLLG, cVLG, cQG, cVG, tupC, retNG, zipG, slTG, partG, noPartG, zipS, cut1]
      rw [← List.map_tail, zipOf_map]
  have h3 : lc2G [2, 3] [3] (srcG (vG 1)) (nmF 2) yesB (srcG (vG 1)) (nmF 3) yesB (andG (opG (eqD true) (vG 2) (vG 3)) (callG F_is_within (consG (vG 2) (consG (vG 3) nilG)))) [some (.int m), some (tupsD L), none, none, none] μ = .ok ((L.flatMap fun a => L.map fun b => (!decide (a = b)) && within a b).map D.bl) μ := by
    rw [lc2G_map (own := [2, 3]) (own1 := [3]) tupI (fun a b => D.bl ((!decide (a = b)) && within a b)) (fun _ b => tupI b) L (fun _ => L) (chk := fun _ => true) (srcG_tup (vG_at rfl)) rfl ?_ fun a _ => ⟨_, rfl, ⟨fun _ => true, srcG_tup (vG_at rfl), rfl⟩, fun b _ => ⟨_, rfl, ?_⟩⟩]
    · rw [List.map_flatMap]
      simp only [List.map_map]
      rfl
    · have z : (L.flatMap fun _ => L).length ≤ 64 * 64 := by
        rw [List.length_flatMap, List.map_const', List.sum_replicate_nat]
        exact Nat.mul_le_mul h.len h.len
      rw [sizeLine_eq]; omega
    · refine andG_ok (x := !decide (a = b)) (y := within a b) ?_ fun _ => ?_
      · simp [fnG, outR, seqG, setG, retG, thenS, dropG, iteG, nmF, tpF, consF, nilF, vG, cG, opG, unG, caG, cLG, consG, nilG, tupG, andG, orG, notG, blG, ifG, chainG, tB1, andB, orB, notB, yesB, callG, bnd, wipeD, nextG, allocG, lstG, cLLG, cVLG, cQG, cVG, tupC, retNG, eqD_tup]
      · simp [fnG, outR, seqG, setG, retG, thenS, dropG, iteG, nmF, tpF, consF, nilF, vG, cG, opG, unG, caG, cLG, consG, nilG, tupG, andG, orG, notG, blG, ifG, chainG, tB1, andB, orB, notB, yesB, callG, bnd, wipeD, nextG, allocG, lstG, cLLG, cVLG, cQG, cVG, tupC, retNG, e_is_within]
  have k0 : F_need_many [.int m] μ = .ok .non μ := e_need_many ⟨h.lo, h.hi⟩ μ
  have c1 : allC ((L.map fun l => grpB m l).map D.bl) μ = .ok (.bl true) μ := by
    rw [allC_map, List.all_map]
    exact congrArg (fun b => Rs.ok (D.bl b) μ) (List.all_eq_true.mpr fun l hl => h.grp l hl)
  have c2 : allC (((L.zip (L.drop 1)).map fun p => decide (p.1 < p.2)).map D.bl) μ = .ok (.bl true) μ := by
    have z := h.asc
    unfold ascB at z
    rw [allC_map, List.all_map]
    exact congrArg (fun b => Rs.ok (D.bl b) μ) z
  have c3 : anyC ((L.flatMap fun a => L.map fun b => (!decide (a = b)) && within a b).map D.bl) μ = .ok (.bl false) μ := by
    rw [anyC_map]
    have z : (L.flatMap fun a => L.map fun b => (!decide (a = b)) && within a b).any id = false := by
      rw [List.any_eq_false]
      intro x hx hq
      obtain ⟨a, ha, hx⟩ := List.mem_flatMap.mp hx
      obtain ⟨b, hb, rfl⟩ := List.mem_map.mp hx
      simp only [id, Bool.and_eq_true, Bool.not_eq_true', decide_eq_false_iff_not] at hq
      rw [h.anti a ha b hb hq.1] at hq
      cases hq.2
    rw [z]
  have q0 : caG isiC (consG (vG 1) (consG (cG (.ty "tuple")) nilG)) [some (.int m), some (tupsD L), none, none, none] μ = .ok (.bl true) μ := rfl
  have q1 : nilTG false (vG 1) [some (.int m), some (tupsD L), none, none, none] μ = .ok (.bl false) μ := by
    cases L with
    | nil => exact absurd rfl h.ne
    | cons _ _ => rfl
  have t1 := orB_ok (notB_ok (tB1_ok q0)) fun _ => orB_ok (tB1_ok q1) fun _ => notB_ok (tB1_ok ((cLG_ok h1).trans c1))
  refine fnG_nx (δ1 := [some (.int m), some (tupsD L), none, none, none]) ((seqG_nx (dropG_ok (show callG F_need_many (consG (vG 0) nilG) [some (.int m), some (tupsD L), none, none, none] μ = .ok .non μ from k0))).trans ?_)
  refine (seqG_nx (iteG_f t1)).trans ?_
  refine (seqG_nx (iteG_f (notB_ok (tB1_ok ((cLG_ok h2).trans c2))))).trans ?_
  exact iteG_f (tB1_ok ((cLG_ok h3).trans c3))
/-- the people 0 .. m - 1 -/
def people (m : Nat) : List Int := (List.range m).map fun i : Nat => (i : Int)
theorem mem_people {m : Nat} {x : Int} : x ∈ people m ↔ 0 ≤ x ∧ x < m := by
  unfold people
  rw [List.mem_map]
  constructor
  · rintro ⟨i, hi, rfl⟩
    rw [List.mem_range] at hi
    omega
  · rintro ⟨h1, h2⟩
    exact ⟨x.toNat, List.mem_range.mpr (by omega), by omega⟩
theorem people_len (m : Nat) : (people m).length = m := by unfold people; rw [List.length_map, List.length_range]
theorem people_asc (m : Nat) : (people m).Pairwise (· < ·) := by
  unfold people
  rw [List.pairwise_map]
  exact List.pairwise_lt_range.imp fun h => by omega
theorem rng_people (m : Nat) : (rngS 0 m).items = (people m).map D.int := by
  unfold rngS people
  rw [List.map_map]
  refine List.map_congr_left fun i _ => ?_
  show D.int (0 + (i : Nat)) = D.int (i : Nat)
  rw [Int.zero_add]
theorem rng1_ok {a : AG} {δ : Dn} {μ μ1 : Store} {m : Nat} (h : a δ μ = .ok [.int m] μ1) (hm : m ≤ 1000) : rng1G a δ μ = .ok ⟨(people m).map D.int, fun _ => true⟩ μ1 := by
  unfold rng1G
  rw [bnd_ok h]
  unfold rng1S
  have z : -(2 ^ 62) ≤ (m : Int) ∧ ((m : Int)).toNat ≤ sizeLine := ⟨by omega, by rw [sizeLine_eq, Int.toNat_natCast]; omega⟩
  simp only [if_pos z]
  rw [Int.toNat_natCast, ← rng_people]; rfl
def others (m : Nat) (g : List Int) : List Int := (people m).filter fun x => !decide (x ∈ g)
theorem mem_others {m : Nat} {g : List Int} {x : Int} : x ∈ others m g ↔ (0 ≤ x ∧ x < m) ∧ x ∉ g := by
  unfold others
  rw [List.mem_filter, mem_people]
  simp
theorem e_others_of {m : Nat} (hm : m ≤ 7) (g : List Int) (μ : Store) : F_others_of [.int m, tupI g] μ = .ok (tupI (others m g)) μ := by
  refine trimP_id (fnG_rt (retG_ok ?_))
  refine (cLG_ok (g := tupC) (xs := (others m g).map D.int) (μ1 := μ) ?_)
  exact lcG_typed (own := [2]) D.int (fun x => !decide (x ∈ g)) D.int (people m) (chk := fun _ => true) (rng1_ok rfl (by omega)) rfl fun x _ => ⟨_, rfl, by simp [fnG, outR, seqG, setG, retG, thenS, dropG, iteG, nmF, tpF, consF, nilF, vG, cG, opG, unG, caG, cLG, consG, nilG, tupG, andG, orG, notG, blG, ifG, chainG, tB1, andB, orB, notB, yesB, callG, bnd, wipeD, nextG, allocG, lstG, cLLG, cVLG, cQG, cVG, tupC, retNG, inD_tup], fun _ => rfl⟩
theorem e_all_of {ks : List (List Int)} (h : ks.flatten.length < 64) (μ : Store) : F_all_of [tupsD ks] μ = .ok (tupI (setI ks.flatten)) μ := by
  refine trimP_id (fnG_rt (retG_ok ?_))
  have h1 : lc2G [1, 2] [2] (srcG (vG 0)) (nmF 1) yesB (srcG (vG 1)) (nmF 2) yesB (vG 2) [some (tupsD ks), none, none] μ = .ok (ks.flatten.map D.int) μ := by
    rw [lc2G_map (own := [1, 2]) (own1 := [2]) tupI (fun _ b => D.int b) (fun _ b => D.int b) ks (fun a => a) (chk := fun _ => true) (srcG_tup (vG_at rfl)) rfl ?_ fun a _ => ⟨_, rfl, ⟨fun _ => true, srcG_tup (vG_at rfl), rfl⟩, fun b _ => ⟨_, rfl, rfl⟩⟩]
    · rw [List.flatMap_def, List.map_flatten]
    · rw [List.flatMap_id', sizeLine_eq]; omega
  refine (cLG_ok (g := tupC) (xs := (setI ks.flatten).map D.int) (μ1 := μ) ?_)
  refine (cLLG_ok h1).trans ?_
  unfold setIC
  simp only [unInts_map, if_pos h]
  rfl
theorem e_may_all_lie (L : List (List Int)) (g : List Int) (μ : Store) : F_may_all_lie [tupsD L, tupI g] μ = .ok (.bl (L.any fun l => within g l)) μ := by
  refine trimP_id (fnG_rt (retG_ok ?_))
  refine (cLG_ok (g := anyC) (xs := (L.map fun l => within g l).map D.bl) (μ1 := μ) ?_).trans ?_
  · rw [lcG_map (own := [2]) tupI (fun l => D.bl (within g l)) L (chk := fun _ => true) (srcG_tup (vG_at rfl)) rfl fun x _ => ⟨_, rfl, by simp [fnG, outR, seqG, setG, retG, thenS, dropG, iteG, nmF, tpF, consF, nilF, vG, cG, opG, unG, caG, cLG, consG, nilG, tupG, andG, orG, notG, blG, ifG, chainG, tB1, andB, orB, notB, yesB, callG, bnd, wipeD, nextG, allocG, lstG, cLLG, cVLG, cQG, cVG, tupC, retNG, e_is_within]⟩]
    rw [List.map_map]; rfl
  · rw [anyC_map, List.any_map]; rfl
theorem e_is_enough {m : Nat} {L : List (List Int)} {g : List Int} (h : LotsOk m L) (hg : grpB m g = true) (μ : Store) : F_is_enough [.int m, tupsD L, tupI g] μ = .ok (.bl (L.any fun l => within (others m g) l)) μ := by
  refine trimP_id ?_
  simp [fnG, outR, seqG, setG, retG, thenS, dropG, iteG, nmF, tpF, consF, nilF, vG, cG, opG, unG, caG, cLG, consG, nilG, tupG, andG, orG, notG, blG, ifG, chainG, tB1, andB, orB, notB, yesB, callG, bnd, wipeD, nextG, allocG, lstG, cLLG, cVLG, cQG, cVG, tupC, retNG, G_is_enough, e_need_lots h, e_need_group hg, e_may_all_lie, e_others_of h.hi]
end K23

set_option autoImplicit false
/-! Triples of lots. -/
namespace K23
open PySem L2 Sim
theorem pairwise_of_ascB : ∀ {k : List Int}, ascB (fun a b => decide (a < b)) k = true → k.Pairwise (· < ·)
  | [], _ => List.Pairwise.nil
  | [_], _ => List.pairwise_singleton _ _
  | a :: b :: k, h => by
    unfold ascB at h
    simp only [List.drop_one, List.tail_cons, List.zip_cons_cons, List.all_cons, Bool.and_eq_true, decide_eq_true_eq] at h
    have ih := pairwise_of_ascB (k := b :: k) (by unfold ascB; simp only [List.drop_one, List.tail_cons]; exact h.2)
    refine List.pairwise_cons.mpr ⟨fun x hx => ?_, ih⟩
    rcases List.mem_cons.mp hx with rfl | hx
    · exact h.1
    · exact Int.lt_trans h.1 ((List.pairwise_cons.mp ih).1 x hx)
theorem grpB_iff {m : Nat} (hm : m ≤ 7) {k : List Int} : grpB m k = true ↔ k.Pairwise (· < ·) ∧ ∀ x ∈ k, 0 ≤ x ∧ x < m := by
  unfold grpB inRange
  rw [Bool.and_eq_true, List.all_eq_true]
  simp only [Bool.and_eq_true, decide_eq_true_eq]
  constructor
  · rintro ⟨h1, h2⟩
    exact ⟨pairwise_of_ascB h2, fun x hx => ⟨(h1 x hx).1.1, by have := (h1 x hx).2; omega⟩⟩
  · rintro ⟨h1, h2⟩
    refine ⟨fun x hx => ⟨⟨(h2 x hx).1, ?_⟩, by have := (h2 x hx).2; omega⟩, ascB_of (h1.imp fun h => decide_eq_true h)⟩
    have := (h2 x hx).2
    show x < 1000000000000000000
    omega
theorem lt_nodup {k : List Int} (h : k.Pairwise (· < ·)) : k.Nodup := h.imp fun h e => by omega
theorem grp_len {m : Nat} (hm : m ≤ 7) {k : List Int} (h : grpB m k = true) : k.length ≤ m := by
  obtain ⟨h1, h2⟩ := (grpB_iff hm).mp h
  have p : k.Perm ((people m).filter fun x => decide (x ∈ k)) := by
    refine (List.perm_ext_iff_of_nodup (lt_nodup h1) ((lt_nodup (people_asc m)).filter _)).mpr fun x => ?_
    rw [List.mem_filter, mem_people]
    simp only [decide_eq_true_eq]
    exact ⟨fun hx => ⟨h2 x hx, hx⟩, fun h => h.2⟩
  rw [p.length_eq]
  exact Nat.le_trans (List.length_filter_le _ _) (by rw [people_len]; exact Nat.le_refl _)
theorem flat_le {α β : Type} {f : α → List β} {c : Nat} : ∀ (l : List α), (∀ x ∈ l, (f x).length ≤ c) → (l.flatMap f).length ≤ l.length * c
  | [], _ => by simp
  | a :: l, h => by
    rw [List.flatMap_cons, List.length_append, List.length_cons, Nat.succ_mul]
    have h1 := h a List.mem_cons_self
    have h2 := flat_le l fun x hx => h x (List.mem_cons_of_mem _ hx)
    omega
/-- the triples, by index -/
def t3 (L : List (List Int)) (a b : List Int) (k : Nat) : List (List (List Int)) := (L.drop k).map fun c => [a, b, c]
def t2 (L : List (List Int)) (i n : Nat) : List (List (List Int)) := (List.range n).flatMap fun j => t3 L (L.getD i []) (L.getD (i + j) []) (i + j)
def t1 (L : List (List Int)) (n : Nat) : List (List (List Int)) := (List.range n).flatMap fun i => t2 L i (L.length - i)
def trip (L : List (List Int)) : List (List (List Int)) := t1 L L.length
section
variable {L : List (List Int)}
theorem t2_succ (i n : Nat) : t2 L i (n + 1) = t2 L i n ++ t3 L (L.getD i []) (L.getD (i + n) []) (i + n) := by
  unfold t2
  rw [List.range_succ, List.flatMap_append]
  simp
theorem t1_succ (n : Nat) : t1 L (n + 1) = t1 L n ++ t2 L n (L.length - n) := by
  unfold t1
  rw [List.range_succ, List.flatMap_append]
  simp
theorem t3_len (a b : List Int) (k : Nat) : (t3 L a b k).length ≤ L.length := by
  unfold t3
  rw [List.length_map, List.length_drop]; omega
theorem t2_len (i n : Nat) : (t2 L i n).length ≤ n * L.length := by
  have z := flat_le (f := fun j => t3 L (L.getD i []) (L.getD (i + j) []) (i + j)) (List.range n) fun x _ => t3_len _ _ _
  rw [List.length_range] at z
  exact z
theorem t1_len (n : Nat) : (t1 L n).length ≤ n * (L.length * L.length) := by
  have z := flat_le (f := fun i => t2 L i (L.length - i)) (c := L.length * L.length) (List.range n) fun x _ => Nat.le_trans (t2_len _ _) (Nat.mul_le_mul (Nat.sub_le _ _) (Nat.le_refl _))
  rw [List.length_range] at z
  exact z
theorem mem_t3 {a b : List Int} {k : Nat} {t : List (List Int)} (h : t ∈ t3 L a b k) : ∃ c ∈ L, t = [a, b, c] := by
  obtain ⟨c, hc, rfl⟩ := List.mem_map.mp h
  exact ⟨c, List.mem_of_mem_drop hc, rfl⟩
theorem getD_mem {i : Nat} (h : i < L.length) : L.getD i [] ∈ L := by
  rw [List.getD_eq_getElem?_getD, List.getElem?_eq_getElem h]
  exact List.getElem_mem h
theorem mem_trip {t : List (List Int)} (h : t ∈ trip L) : ∃ a ∈ L, ∃ b ∈ L, ∃ c ∈ L, t = [a, b, c] := by
  obtain ⟨i, hi, h⟩ := List.mem_flatMap.mp h
  obtain ⟨j, hj, h⟩ := List.mem_flatMap.mp h
  obtain ⟨c, hc, rfl⟩ := mem_t3 h
  rw [List.mem_range] at hi hj
  exact ⟨_, getD_mem hi, _, getD_mem (by omega), c, hc, rfl⟩
theorem trip_has {i j k : Nat} (h1 : i ≤ j) (h2 : j ≤ k) (h3 : k < L.length) : [L.getD i [], L.getD j [], L.getD k []] ∈ trip L := by
  refine List.mem_flatMap.mpr ⟨i, List.mem_range.mpr (by omega), List.mem_flatMap.mpr ⟨j - i, List.mem_range.mpr (by omega), ?_⟩⟩
  have e : i + (j - i) = j := by omega
  rw [e]
  refine List.mem_map.mpr ⟨L.getD k [], ?_, rfl⟩
  rw [List.mem_iff_getElem?]
  refine ⟨k - j, ?_⟩
  rw [List.getElem?_drop, List.getD_eq_getElem?_getD]
  have e2 : j + (k - j) = k := by omega
  rw [e2, List.getElem?_eq_getElem h3]; rfl
/-- any three lots, in some order -/
theorem trip_any {a b c : List Int} (ha : a ∈ L) (hb : b ∈ L) (hc : c ∈ L) : ∃ t ∈ trip L, ∀ x : Int, (x ∈ a ∨ x ∈ b ∨ x ∈ c) → x ∈ t.flatten := by
  have get : ∀ {a : List Int}, a ∈ L → ∃ i, i < L.length ∧ L.getD i [] = a := fun {a} ha => by
    obtain ⟨i, hi, e⟩ := List.mem_iff_getElem.mp ha
    exact ⟨i, hi, by rw [List.getD_eq_getElem?_getD, List.getElem?_eq_getElem hi]; exact e⟩
  obtain ⟨i, hi, rfl⟩ := get ha
  obtain ⟨j, hj, rfl⟩ := get hb
  obtain ⟨k, hk, rfl⟩ := get hc
  have fin : ∀ p q r : Nat, p ≤ q → q ≤ r → r < L.length → (∀ x : Int, (x ∈ L.getD i [] ∨ x ∈ L.getD j [] ∨ x ∈ L.getD k []) → x ∈ L.getD p [] ∨ x ∈ L.getD q [] ∨ x ∈ L.getD r []) → ∃ t ∈ trip L, ∀ x : Int, (x ∈ L.getD i [] ∨ x ∈ L.getD j [] ∨ x ∈ L.getD k []) → x ∈ t.flatten := fun p q r h1 h2 h3 h => by
    refine ⟨_, trip_has h1 h2 h3, fun x hx => ?_⟩
    simpa using h x hx
  rcases Nat.le_total i j with h1 | h1 <;> rcases Nat.le_total j k with h2 | h2 <;> rcases Nat.le_total i k with h3 | h3
  · exact fin i j k h1 h2 hk fun x hx => hx
  · exact fin i j k h1 h2 hk fun x hx => hx
  · exact fin i k j h3 h2 hj fun x hx => by rcases hx with q | q | q <;> first | exact .inl q | exact .inr (.inl q) | exact .inr (.inr q)
  · exact fin k i j h3 h1 hj fun x hx => by rcases hx with q | q | q <;> first | exact .inl q | exact .inr (.inl q) | exact .inr (.inr q)
  · exact fin j i k h1 h3 hk fun x hx => by rcases hx with q | q | q <;> first | exact .inl q | exact .inr (.inl q) | exact .inr (.inr q)
  · exact fin j k i h2 h3 hi fun x hx => by rcases hx with q | q | q <;> first | exact .inl q | exact .inr (.inl q) | exact .inr (.inr q)
  · exact fin k j i h2 h1 hi fun x hx => by rcases hx with q | q | q <;> first | exact .inl q | exact .inr (.inl q) | exact .inr (.inr q)
  · exact fin k j i h2 h1 hi fun x hx => by rcases hx with q | q | q <;> first | exact .inl q | exact .inr (.inl q) | exact .inr (.inr q)
end
theorem get_last (μ : Store) (o : Ob) : (μ ++ [o])[μ.length]? = some o := by simp
theorem set_last (μ : Store) (o u : Ob) : (μ ++ [o]).set μ.length u = μ ++ [u] := by simp
theorem extMG_new {a : EG} {b : AG} {δ : Dn} {μ : Store} {n : Nat} {ds es : List D} (ha : a δ μ = .ok (.loc n) μ) (hn : μ[n]? = some (.lst ds)) (hb : b δ μ = .ok es μ) (hl : ds.length + es.length ≤ sizeLine) :
    extMG a (.new b) δ μ = .ok .non (μ.set n (.lst (ds ++ es))) := by
  have e1 : locL (.loc n) μ = .ok ds μ := by
    unfold locL
    simp only [hn]
  have e2 : asL (.loc n) μ = .ok (.loc n) μ := by
    unfold asL
    rw [bnd_ok e1]; rfl
  unfold extMG
  rw [bnd_ok ha, bnd_ok e2]
  show (bnd (b δ) fun es0 => bnd (locL (.loc n)) fun ds => bnd (ret es0) fun es μ => if ds.length + es.length ≤ sizeLine then Rs.ok D.non (μ.set n (.lst (ds ++ es))) else .stuck) μ = _
  rw [bnd_ok hb, bnd_ok e1, bnd_ok (show ret es μ = .ok es μ from rfl), if_pos hl]
theorem slT_from {a : EG} {lo : EG} {δ : Dn} {μ : Store} {ds : List D} {n : Nat} (ha : a δ μ = .ok (.tup ds) μ) (hl : lo δ μ = .ok (.int (n : Nat)) μ) : slTG a (partG lo) noPartG δ μ = .ok (.tup (ds.drop n)) μ := by
  have e : partG lo δ μ = .ok (some ((n : Nat) : Int)) μ := by
    unfold partG
    rw [bnd_ok hl]; rfl
  unfold slTG
  rw [bnd_ok ha, bnd_ok e, bnd_ok (show noPartG δ μ = .ok none μ from rfl)]
  show ret (D.tup (cutD ds (some ((n : Nat) : Int)) none)) μ = _
  rw [cutFrom]; rfl
theorem enum_tup {a : EG} {δ : Dn} {μ : Store} {ds : List D} (ha : a δ μ = .ok (.tup ds) μ) : enumG (consG a nilG) δ μ = .ok ⟨enumOf ds, fun _ => true⟩ μ := by
  unfold enumG
  rw [bnd_ok (consG_ok ha nilG_ok)]; rfl
theorem enumOf_get {ds : List D} {i : Nat} {d : D} (h : (enumOf ds)[i]? = some d) : ∃ c, ds[i]? = some c ∧ d = .tup [.int (i : Nat), c] := by
  unfold enumOf at h
  rw [List.getElem?_mapIdx] at h
  obtain ⟨c, h1, rfl⟩ := Option.map_eq_some_iff.mp h
  exact ⟨c, h1, rfl⟩
theorem enumOf_length (ds : List D) : (enumOf ds).length = ds.length := by unfold enumOf; rw [List.length_mapIdx]
theorem tups_get {L : List (List Int)} {i : Nat} {c : D} (h : (L.map tupI)[i]? = some c) : i < L.length ∧ c = tupI (L.getD i []) := by
  rw [List.getElem?_map] at h
  obtain ⟨l, h1, rfl⟩ := Option.map_eq_some_iff.mp h
  exact ⟨(List.getElem?_eq_some_iff.mp h1).1, by rw [List.getD_eq_getElem?_getD, h1]; rfl⟩
theorem e_triples_of {L : List (List Int)} (hl : L.length ≤ 64) (μ : Store) : F_triples_of [tupsD L] μ = .ok (.loc μ.length) (μ ++ [.lst ((trip L).map tupsD)]) := by
  have big3 : ∀ n, n ≤ L.length → n * (L.length * L.length) ≤ 64 * (64 * 64) := fun n hn => Nat.mul_le_mul (Nat.le_trans hn hl) (Nat.mul_le_mul hl hl)
  have in2 : ∀ n, n ≤ L.length → n * L.length ≤ 64 * 64 := fun n hn => Nat.mul_le_mul (Nat.le_trans hn hl) hl
  refine fnG_rt (n := 7) (d := .loc μ.length) ?_
  refine (seqG_nx (δ1 := [some (tupsD L), some (.loc μ.length), none, none, none, none, none]) (μ1 := μ ++ [.lst []]) (setG_nm (allocG_ok (lstG_ok nilG_ok (Nat.zero_le _))))).trans ?_
  have key := forG_all (body := forG (enumG (consG (slTG (vG 0) (partG (vG 2)) noPartG) nilG)) (tpF 2 (consF (nmF 4) (consF (nmF 5) nilF))) (dropG (extMG (vG 1) (.new (lcG [6] (srcG (slTG (vG 0) (partG (opG addD (vG 2) (vG 4))) noPartG)) (nmF 6) yesB (tupG (consG (vG 3) (consG (vG 5) (consG (vG 6) nilG)))))))))
    (I := enumG (consG (vG 0) nilG)) (set := tpF 2 (consF (nmF 2) (consF (nmF 3) nilF))) (δ := [some (tupsD L), some (.loc μ.length), none, none, none, none, none]) (μ := μ ++ [.lst []])
    (fun i δ ν => ∃ x2 x3 x4 x5 x6, δ = [some (tupsD L), some (.loc μ.length), x2, x3, x4, x5, x6] ∧ ν = μ ++ [.lst ((t1 L i).map tupsD)]) (enum_tup (vG_at rfl)) (fun _ _ _ _ => rfl) (by
    rintro i d δ ν hd ⟨x2, x3, x4, x5, x6, rfl, rfl⟩
    obtain ⟨c, hc, rfl⟩ := enumOf_get hd
    obtain ⟨hi, rfl⟩ := tups_get hc
    refine ⟨[some (tupsD L), some (.loc μ.length), some (.int (i : Nat)), some (tupI (L.getD i [])), x4, x5, x6], rfl, ?_⟩
    have hs : slTG (vG 0) (partG (vG 2)) noPartG [some (tupsD L), some (.loc μ.length), some (.int (i : Nat)), some (tupI (L.getD i [])), x4, x5, x6] (μ ++ [.lst ((t1 L i).map tupsD)]) = .ok (.tup ((L.map tupI).drop i)) (μ ++ [.lst ((t1 L i).map tupsD)]) := slT_from (vG_at rfl) (vG_at rfl)
    have key := forG_all (body := dropG (extMG (vG 1) (.new (lcG [6] (srcG (slTG (vG 0) (partG (opG addD (vG 2) (vG 4))) noPartG)) (nmF 6) yesB (tupG (consG (vG 3) (consG (vG 5) (consG (vG 6) nilG))))))))
      (set := tpF 2 (consF (nmF 4) (consF (nmF 5) nilF)))
      (fun j δ ν => ∃ x4 x5 x6, δ = [some (tupsD L), some (.loc μ.length), some (.int (i : Nat)), some (tupI (L.getD i [])), x4, x5, x6] ∧ ν = μ ++ [.lst ((t1 L i ++ t2 L i j).map tupsD)]) (enum_tup hs) (fun _ _ _ _ => rfl) (by
      rintro j d δ ν hd ⟨x4, x5, x6, rfl, rfl⟩
      obtain ⟨c, hc, rfl⟩ := enumOf_get hd
      rw [List.getElem?_drop] at hc
      obtain ⟨hj, rfl⟩ := tups_get hc
      refine ⟨[some (tupsD L), some (.loc μ.length), some (.int (i : Nat)), some (tupI (L.getD i [])), some (.int (j : Nat)), some (tupI (L.getD (i + j) [])), x6], rfl, ?_⟩
      have hs2 : slTG (vG 0) (partG (opG addD (vG 2) (vG 4))) noPartG [some (tupsD L), some (.loc μ.length), some (.int (i : Nat)), some (tupI (L.getD i [])), some (.int (j : Nat)), some (tupI (L.getD (i + j) [])), x6] (μ ++ [.lst ((t1 L i ++ t2 L i j).map tupsD)]) = .ok (.tup ((L.drop (i + j)).map tupI)) (μ ++ [.lst ((t1 L i ++ t2 L i j).map tupsD)]) := by
        rw [List.map_drop]
        refine slT_from (vG_at rfl) ((opG_ok (vG_at rfl) (vG_at rfl)).trans ?_)
        rw [addD_int, Int.natCast_add]
      have hb : lcG [6] (srcG (slTG (vG 0) (partG (opG addD (vG 2) (vG 4))) noPartG)) (nmF 6) yesB (tupG (consG (vG 3) (consG (vG 5) (consG (vG 6) nilG)))) [some (tupsD L), some (.loc μ.length), some (.int (i : Nat)), some (tupI (L.getD i [])), some (.int (j : Nat)), some (tupI (L.getD (i + j) [])), x6] (μ ++ [.lst ((t1 L i ++ t2 L i j).map tupsD)]) = .ok ((t3 L (L.getD i []) (L.getD (i + j) []) (i + j)).map tupsD) (μ ++ [.lst ((t1 L i ++ t2 L i j).map tupsD)]) := by
        rw [lcG_map (own := [6]) tupI (fun c => tupsD [L.getD i [], L.getD (i + j) [], c]) (L.drop (i + j)) (chk := fun _ => true) (srcG_tup hs2) rfl fun c _ => ⟨_, rfl, tupG_ok (consG_ok (vG_at rfl) (consG_ok (vG_at rfl) (consG_ok (vG_at rfl) nilG_ok))) (by rw [sizeLine_eq]; show 3 ≤ _; omega)⟩]
        unfold t3
        rw [List.map_map]; rfl
      have hx := extMG_new (a := vG 1) (δ := [some (tupsD L), some (.loc μ.length), some (.int (i : Nat)), some (tupI (L.getD i [])), some (.int (j : Nat)), some (tupI (L.getD (i + j) [])), x6]) (vG_at rfl) (get_last μ _) hb (by
        have z1 := t1_len (L := L) i
        have z2 := t2_len (L := L) i j
        have z3 := t3_len (L := L) (L.getD i []) (L.getD (i + j) []) (i + j)
        have z4 := big3 i (by omega)
        have z5 := in2 j (by omega)
        simp only [List.length_map, List.length_append]
        rw [sizeLine_eq]
        omega)
      refine ⟨_, _, dropG_ok hx, _, _, _, rfl, ?_⟩
      rw [set_last, t2_succ, ← List.map_append, List.append_assoc]) ⟨x4, x5, x6, rfl, by simp [t2]⟩
    obtain ⟨δ', μ', h1, x4', x5', x6', rfl, rfl⟩ := key
    refine ⟨_, _, h1, _, _, _, _, _, rfl, ?_⟩
    rw [enumOf_length, List.length_drop, List.length_map, ← t1_succ]) ⟨none, none, none, none, none, rfl, rfl⟩
  obtain ⟨δ', μ', h1, x2, x3, x4, x5, x6, rfl, rfl⟩ := key
  refine (seqG_nx h1).trans ?_
  rw [enumOf_length, List.length_map]
  exact retG_ok (vG_at rfl)
end K23

set_option autoImplicit false
/-! Three lots that take all, what binds; the law's own triples. -/
namespace K23
open PySem L2 Sim
theorem len_tup (μ : Store) (k : List Int) : caG (c1 lenD) (consG (cG (tupI k)) nilG) [] μ = .ok (.int k.length) μ := by
  show Rs.ok (D.int ((k.map D.int).length : Nat)) μ = _
  rw [List.length_map]
theorem lenD_tup (ds : List D) (μ : Store) : c1 lenD [.tup ds] μ = .ok (.int ds.length) μ := rfl
theorem flat3 {m : Nat} {L : List (List Int)} (h : LotsOk m L) {t : List (List Int)} (ht : t ∈ trip L) : t.flatten.length < 64 ∧ ∀ x ∈ t.flatten, 0 ≤ x ∧ x < m := by
  obtain ⟨a, ha, b, hb, c, hc, rfl⟩ := mem_trip ht
  have l1 := grp_len h.hi (h.grp a ha)
  have l2 := grp_len h.hi (h.grp b hb)
  have l3 := grp_len h.hi (h.grp c hc)
  have := h.hi
  refine ⟨by simp; omega, fun x hx => ?_⟩
  have z : x ∈ a ∨ x ∈ b ∨ x ∈ c := by simpa using hx
  rcases z with z | z | z
  · exact ((grpB_iff h.hi).mp (h.grp a ha)).2 x z
  · exact ((grpB_iff h.hi).mp (h.grp b hb)).2 x z
  · exact ((grpB_iff h.hi).mp (h.grp c hc)).2 x z
theorem e_is_binding {m : Nat} {L : List (List Int)} {g : List Int} (h : LotsOk m L) (hg : grpB m g = true) (μ : Store) : F_is_binding [.int m, tupsD L, tupI g] μ = .ok (.bl ((trip L).any fun t => within (others m g) (setI t.flatten))) μ := by
  refine trimP_more (m := [.lst ((trip L).map tupsD)]) ?_ (by simp [D.bd])
  refine fnG_rt (n := 5) ?_
  refine (seqG_nx (dropG_ok (show callG F_need_lots (consG (vG 0) (consG (vG 1) nilG)) [some (.int m), some (tupsD L), some (tupI g), none, none] μ = .ok .non μ from e_need_lots h μ))).trans ?_
  refine (seqG_nx (dropG_ok (show callG F_need_group (consG (vG 0) (consG (vG 2) nilG)) [some (.int m), some (tupsD L), some (tupI g), none, none] μ = .ok .non μ from e_need_group hg μ))).trans ?_
  refine (seqG_nx (setG_nm (show callG F_others_of (consG (vG 0) (consG (vG 2) nilG)) [some (.int m), some (tupsD L), some (tupI g), none, none] μ = .ok (tupI (others m g)) μ from e_others_of h.hi g μ))).trans ?_
  refine retG_ok ((cLG_ok (g := anyC) (xs := ((trip L).map fun t => within (others m g) (setI t.flatten)).map D.bl) (μ1 := μ ++ [.lst ((trip L).map tupsD)]) ?_).trans ?_)
  · show lcG [4] (srcG (callG F_triples_of (consG (vG 1) nilG))) (nmF 4) yesB (callG F_is_within (consG (vG 3) (consG (callG F_all_of (consG (vG 4) nilG)) nilG))) [some (.int m), some (tupsD L), some (tupI g), some (tupI (others m g)), none] μ = _
    rw [lcG_map (own := [4]) tupsD (fun t => D.bl (within (others m g) (setI t.flatten))) (trip L) (srcG_loc (show callG F_triples_of (consG (vG 1) nilG) [some (.int m), some (tupsD L), some (tupI g), some (tupI (others m g)), none] μ = _ from e_triples_of h.len μ) (get_last μ _)) (decide_eq_true (get_last μ _)) fun t ht => ⟨_, rfl, ?_⟩]
    · rw [List.map_map]; rfl
    · refine (callG_ok (consG_ok (vG_at rfl) (consG_ok ((callG_ok (consG_ok (vG_at rfl) nilG_ok)).trans (e_all_of (flat3 h ht).1 _)) nilG_ok))).trans ?_
      exact e_is_within _ _ _
  · rw [anyC_map, List.any_map]; rfl
theorem forL_find {α : Type} {set : TgF} {body : SG} {chk : Store → Bool} {μ : Store} (e : α → D) (p : α → Bool) (Env : Dn → Prop) (hc : chk μ = true)
    (hs : ∀ a δ, Env δ → ∃ δ1, set (e a) δ = some δ1 ∧ Env δ1) : ∀ (as : List α) (δ : Dn), Env δ → (∀ a ∈ as, ∀ δ δ1, Env δ → set (e a) δ = some δ1 → body δ1 μ = if p a = true then .rt (e a) μ else .nx δ1 μ) →
    ∃ δ', Env δ' ∧ forL set body chk (as.map e) δ μ = (as.find? p).elim (.nx δ' μ) fun a => .rt (e a) μ
  | [], δ, h0, _ => ⟨δ, h0, by rw [List.map_nil, forL, if_pos hc]; rfl⟩
  | a :: as, δ, h0, hb => by
    obtain ⟨δ1, h1, h2⟩ := hs a δ h0
    have h3 := hb a List.mem_cons_self δ δ1 h0 h1
    rw [List.map_cons, List.find?_cons]
    cases hp : p a with
    | true =>
      rw [hp, if_pos rfl] at h3
      refine ⟨δ1, h2, ?_⟩
      rw [forL, if_pos hc]
      simp only [h1, h3, Option.elim_some]
    | false =>
      rw [hp, if_neg (by decide)] at h3
      obtain ⟨δ', h4, h5⟩ := forL_find e p Env hc hs as δ1 h2 fun b hb' => hb b (List.mem_cons_of_mem _ hb')
      refine ⟨δ', h4, ?_⟩
      rw [forL, if_pos hc]
      simp only [h1, h3, h5]
def fullB (m : Nat) (t : List (List Int)) : Bool := decide ((setI t.flatten).length = m)
theorem e_three_by {m : Nat} {L : List (List Int)} (h : LotsOk m L) (μ : Store) : F_three_by [.int m, tupsD L] μ = .ok (((trip L).find? (fullB m)).elim .non tupsD) μ := by
  refine trimP_more (m := [.lst ((trip L).map tupsD)]) ?_ (by
    cases (trip L).find? (fullB m) with
    | none => simp [D.bd]
    | some t => show D.bd _ (tupsD t) = true; rw [D.bd]; exact bds_tups _ _)
  have hd : callG F_triples_of (consG (vG 1) nilG) [some (.int m), some (tupsD L), none] μ = .ok (.loc μ.length) (μ ++ [.lst ((trip L).map tupsD)]) := e_triples_of h.len μ
  obtain ⟨δ', ⟨x, rfl⟩, h2⟩ := forL_find (set := nmF 2) (body := iteG (tB1 (opG (eqD false) (caG (c1 lenD) (consG (callG F_all_of (consG (vG 2) nilG)) nilG)) (vG 0))) (retG (vG 2)) nextG)
    (chk := fun ν => decide (ν[μ.length]? = some (.lst ((trip L).map tupsD)))) (μ := μ ++ [.lst ((trip L).map tupsD)]) tupsD (fullB m) (fun δ => ∃ x, δ = [some (.int m), some (tupsD L), x]) (decide_eq_true (get_last μ _)) (fun a δ ⟨x, e⟩ => ⟨_, rfl, some (tupsD a), by rw [e]; rfl⟩) (trip L) [some (.int m), some (tupsD L), none] ⟨none, rfl⟩ (by
      rintro t ht δ δ1 ⟨x, rfl⟩ e
      cases e
      have z : tB1 (opG (eqD false) (caG (c1 lenD) (consG (callG F_all_of (consG (vG 2) nilG)) nilG)) (vG 0)) [some (.int m), some (tupsD L), some (tupsD t)] (μ ++ [.lst ((trip L).map tupsD)]) = .ok (fullB m t) (μ ++ [.lst ((trip L).map tupsD)]) := by
        refine tB1_ok ((opG_ok (μ1 := μ ++ [.lst ((trip L).map tupsD)]) (μ2 := μ ++ [.lst ((trip L).map tupsD)]) (x := .int (setI t.flatten).length) (y := .int m) ((caG_ok (consG_ok ((callG_ok (consG_ok (vG_at rfl) nilG_ok)).trans (e_all_of (flat3 h ht).1 _)) nilG_ok)).trans ?_) (vG_at rfl)).trans ?_)
        · rw [tupI, lenD_tup, List.length_map]
        · rw [eqD_int]
          have q : decide (((setI t.flatten).length : Int) = m) = fullB m t := by
            unfold fullB
            exact decide_eq_decide.mpr (by omega)
          rw [q]; rfl
      show iteG _ (retG (vG 2)) nextG [some (.int m), some (tupsD L), some (tupsD t)] (μ ++ [.lst ((trip L).map tupsD)]) = _
      cases hf : fullB m t with
      | true => rw [hf] at z; rw [iteG_t z]; rfl
      | false => rw [hf] at z; rw [iteG_f z]; rfl)
  have h3 : forG (srcG (callG F_triples_of (consG (vG 1) nilG))) (nmF 2) (iteG (tB1 (opG (eqD false) (caG (c1 lenD) (consG (callG F_all_of (consG (vG 2) nilG)) nilG)) (vG 0))) (retG (vG 2)) nextG) [some (.int m), some (tupsD L), none] μ = ((trip L).find? (fullB m)).elim (.nx [some (.int m), some (tupsD L), x] (μ ++ [.lst ((trip L).map tupsD)])) fun a => .rt (tupsD a) (μ ++ [.lst ((trip L).map tupsD)]) := by
    unfold forG
    rw [thenS_ok (srcG_loc hd (get_last μ _))]
    exact h2
  refine fnG_rt (n := 3) ?_
  cases hf : (trip L).find? (fullB m) with
  | some t =>
    rw [hf] at h3
    exact seqG_rt h3
  | none =>
    rw [hf] at h3
    exact (seqG_nx h3).trans rfl
theorem e_three_lots {m : Nat} {L : List (List Int)} (h : LotsOk m L) (μ : Store) : F_three_lots [.int m, tupsD L] μ = .ok (((trip L).find? (fullB m)).elim .non tupsD) μ := by
  refine trimP_id (fnG_rt (n := 2) ?_)
  refine (seqG_nx (dropG_ok (show callG F_need_lots (consG (vG 0) (consG (vG 1) nilG)) [some (.int m), some (tupsD L)] μ = .ok .non μ from e_need_lots h μ))).trans ?_
  exact retG_ok (e_three_by h μ)
end K23

set_option autoImplicit false
/-! The drawn numbers. -/
namespace K23
open PySem L2 Sim
section
variable {a b c : EG} {δ : Dn} {μ μ1 : Store} {n : Nat} {es : List (Key × D)} {k : Key} {x y : D}
theorem dget_at (ha : a δ μ = .ok (.loc n) μ) (hb : b δ μ = .ok x μ) (hn : μ[n]? = some (.dk es)) (hk : keyD x = some k) (hv : valD es k = some y) : dgetG a b δ μ = .ok y μ := by
  have e : dkL (.loc n) μ = .ok (n, es) μ := by
    unfold dkL
    simp only [hn]
  unfold dgetG
  rw [bnd_ok ha, bnd_ok hb, bnd_ok e]
  simp only [hk, hv]
theorem dput_at (hc : c δ μ = .ok y μ1) (ha : a δ μ1 = .ok (.loc n) μ1) (hb : b δ μ1 = .ok x μ1) (hn : μ1[n]? = some (.dk es)) (hk : keyD x = some k) (hl : es.length < sizeLine) : dputG a b c δ μ = .nx δ (μ1.set n (.dk (putD es k y))) := by
  have e : dkL (.loc n) μ1 = .ok (n, es) μ1 := by
    unfold dkL
    simp only [hn]
  unfold dputG
  rw [thenS_ok hc, thenS_ok ha, thenS_ok hb, thenS_ok e]
  simp only [hk, if_pos hl]
theorem popG_at {ds : List D} {i : Nat} (ha : a δ μ = .ok (.loc n) μ) (h0 : ∃ es, μ[n]? = some (.lst es)) (hb : b δ μ = .ok (.int i) μ1) (hn : μ1[n]? = some (.lst ds)) (hi : i < ds.length) (hi2 : i < 2 ^ 62) (hy : ds[i]? = some y) :
    popG a b δ μ = .ok y (μ1.set n (.lst (ds.eraseIdx i))) := by
  obtain ⟨es, h0⟩ := h0
  have e0 : asL (.loc n) μ = .ok (.loc n) μ := by
    unfold asL
    have e : locL (.loc n) μ = .ok es μ := by
      unfold locL
      simp only [h0]
    rw [bnd_ok e]; rfl
  have e1 : locL (.loc n) μ1 = .ok ds μ1 := by
    unfold locL
    simp only [hn]
  unfold popG
  rw [bnd_ok ha, bnd_ok e0, bnd_ok hb, bnd_ok e1]
  have z : -(2 ^ 63) ≤ ((i : Nat) : Int) ∧ ((i : Nat) : Int) < 2 ^ 63 := by omega
  have q : seqIndex? ((i : Nat) : Int) ds.length = some i := by
    unfold seqIndex?
    simp
    omega
  simp only [if_pos z, q, hy]
end
/-- the state's dict, the store with it -/
def ents (lf tn : Int) : List (Key × D) := [(.inr "great", .loc 0), (.inr "cells", .loc 1), (.inr "left", .int lf), (.inr "turn", .int tn)]
def mu (gs cs : List Int) (lf tn : Int) (rest : Store) : Store := .lst (gs.map D.int) :: .lst (cs.map D.int) :: .dk (ents lf tn) :: rest
def stD : D := .loc 2
theorem v_great (lf tn : Int) : valD (ents lf tn) (.inr "great") = some (.loc 0) := rfl
theorem v_cells (lf tn : Int) : valD (ents lf tn) (.inr "cells") = some (.loc 1) := rfl
theorem v_left (lf tn : Int) : valD (ents lf tn) (.inr "left") = some (.int lf) := rfl
theorem v_turn (lf tn : Int) : valD (ents lf tn) (.inr "turn") = some (.int tn) := rfl
theorem p_left (lf tn x : Int) : putD (ents lf tn) (.inr "left") (.int x) = ents x tn := rfl
theorem p_turn (lf tn x : Int) : putD (ents lf tn) (.inr "turn") (.int x) = ents lf x := rfl
section
variable {gs cs : List Int} {lf tn : Int} {rest : Store} {δ : Dn} {i : Nat}
theorem g_great (h : δ[i]? = some (some stD)) : dgetG (vG i) (cG (.str "great")) δ (mu gs cs lf tn rest) = .ok (.loc 0) (mu gs cs lf tn rest) := dget_at (vG_at h) rfl rfl rfl (v_great _ _)
theorem g_cells (h : δ[i]? = some (some stD)) : dgetG (vG i) (cG (.str "cells")) δ (mu gs cs lf tn rest) = .ok (.loc 1) (mu gs cs lf tn rest) := dget_at (vG_at h) rfl rfl rfl (v_cells _ _)
theorem g_left (h : δ[i]? = some (some stD)) : dgetG (vG i) (cG (.str "left")) δ (mu gs cs lf tn rest) = .ok (.int lf) (mu gs cs lf tn rest) := dget_at (vG_at h) rfl rfl rfl (v_left _ _)
theorem g_turn (h : δ[i]? = some (some stD)) : dgetG (vG i) (cG (.str "turn")) δ (mu gs cs lf tn rest) = .ok (.int tn) (mu gs cs lf tn rest) := dget_at (vG_at h) rfl rfl rfl (v_turn _ _)
theorem ents_len (lf tn : Int) : (ents lf tn).length < sizeLine := by rw [sizeLine_eq]; show 4 < _; omega
theorem s_left {c : EG} {x : Int} {μ : Store} (h : δ[i]? = some (some stD)) (hc : c δ μ = .ok (.int x) (mu gs cs lf tn rest)) : dputG (vG i) (cG (.str "left")) c δ μ = .nx δ (mu gs cs x tn rest) :=
  dput_at (k := .inr "left") hc (vG_at h) rfl rfl rfl (ents_len _ _)
theorem s_turn {c : EG} {x : Int} {μ : Store} (h : δ[i]? = some (some stD)) (hc : c δ μ = .ok (.int x) (mu gs cs lf tn rest)) : dputG (vG i) (cG (.str "turn")) c δ μ = .nx δ (mu gs cs lf x rest) :=
  dput_at (k := .inr "turn") hc (vG_at h) rfl rfl rfl (ents_len _ _)
end
def absI (i : Int) : Int := if i < 0 then -i else i
theorem e_begun (ns : List Int) : ∃ gs cs, F__law_begun [.fz (ns.map D.int)] [] = .ok stD (mu gs cs 0 0 []) := by
  refine ⟨(ns.filter fun x => decide ((10 : Int) ^ 18 ≤ absI x)).map fun x => absI x - 10 ^ 18, ns.map absI, ?_⟩
  have hp : ∀ δ μ, opG powD (cG (.int 10)) (cG (.int 18)) δ μ = .ok (.int ((10 : Int) ^ 18)) μ := fun δ μ => by
    refine (opG_ok (x := .int 10) (y := .int 18) rfl rfl).trans ?_
    rw [powD_int μ (by decide)]; rfl
  have ha : ∀ (δ : Dn) (μ : Store) (j : Nat) (x : Int), δ[j]? = some (some (.int x)) → caG (c1 absD) (consG (vG j) nilG) δ μ = .ok (.int (absI x)) μ := fun δ μ j x h => by
    refine (caG_ok (consG_ok (vG_at h) nilG_ok)).trans rfl
  refine fnG_rt (n := 3) ?_
  refine (seqG_nx (setG_nm (allocG_ok (xs := ((ns.filter fun x => decide ((10 : Int) ^ 18 ≤ absI x)).map fun x => D.int (absI x - 10 ^ 18))) (μ1 := []) ?_))).trans ?_
  · refine lcG_typed (own := [2]) D.int (fun x => decide ((10 : Int) ^ 18 ≤ absI x)) (fun x => D.int (absI x - 10 ^ 18)) ns (srcG_fz (vG_at rfl)) rfl fun x _ => ⟨_, rfl, ?_, fun _ => ?_⟩
    · refine tB1_ok ((opG_ok (ha _ _ 2 x rfl) (hp _ _)).trans ?_)
      rw [geD_int]
    · refine (opG_ok (ha _ _ 2 x rfl) (hp _ _)).trans ?_
      rw [subD_int]
  · refine retG_ok ?_
    have h2 : allocG (lcG [2] (srcG (vG 0)) (nmF 2) yesB (caG (c1 absD) (consG (vG 2) nilG))) [some (.fz (ns.map D.int)), some (.loc 0), none] [.lst ((ns.filter fun x => decide ((10 : Int) ^ 18 ≤ absI x)).map fun x => D.int (absI x - 10 ^ 18))] =
        .ok (.loc 1) [.lst ((ns.filter fun x => decide ((10 : Int) ^ 18 ≤ absI x)).map fun x => D.int (absI x - 10 ^ 18)), .lst (ns.map fun x => D.int (absI x))] := by
      refine (allocG_ok (xs := ns.map fun x => D.int (absI x)) (μ1 := [.lst ((ns.filter fun x => decide ((10 : Int) ^ 18 ≤ absI x)).map fun x => D.int (absI x - 10 ^ 18))]) ?_).trans rfl
      exact lcG_map (own := [2]) D.int (fun x => D.int (absI x)) ns (srcG_fz (vG_at rfl)) rfl fun x _ => ⟨_, rfl, ha _ _ 2 x rfl⟩
    unfold dispG
    refine (bnd_ok (a := [(.inr "great", .loc 0), (.inr "cells", .loc 1), (.inr "left", .int 0), (.inr "turn", .int 0)]) (μ' := [.lst ((ns.filter fun x => decide ((10 : Int) ^ 18 ≤ absI x)).map fun x => D.int (absI x - 10 ^ 18)), .lst (ns.map fun x => D.int (absI x))]) ?_).trans ?_
    · unfold consPG
      rw [bnd_ok (show cG (.str "great") _ _ = _ from rfl), bnd_ok (vG_at (d := .loc 0) rfl)]
      refine (bnd_ok (a := [(.inr "cells", .loc 1), (.inr "left", .int 0), (.inr "turn", .int 0)]) ?_).trans rfl
      rw [bnd_ok (show cG (.str "cells") _ _ = _ from rfl)]
      refine (bnd_ok h2).trans rfl
    · show Rs.ok (D.loc 2) _ = _
      unfold mu
      rw [List.map_map, List.map_map]; rfl
/-- the store, and how many numbers may still be drawn -/
def Good (rest : Store) (B : Nat) (μ : Store) : Prop := ∃ (gs cs : List Int) (lf tn : Int), 0 ≤ tn ∧ tn + B ≤ 2 ^ 40 ∧ μ = mu gs cs lf tn rest
theorem Good.less {rest : Store} {B C : Nat} {μ : Store} (h : Good rest B μ) (hc : C ≤ B) : Good rest C μ := by
  obtain ⟨gs, cs, lf, tn, h1, h2, h3⟩ := h
  exact ⟨gs, cs, lf, tn, h1, by omega, h3⟩
theorem mem3 {α : Type} {l : List α} {i : Nat} {d a b c : α} (h : l = [a, b, c]) (hd : l[i]? = some d) : d = a ∨ d = b ∨ d = c := by
  have z := List.mem_of_getElem? hd
  rw [h] at z
  simpa using z
theorem e_blended {gs cs : List Int} {lf tn : Int} {rest : Store} (h0 : 0 ≤ tn) (h1 : tn + 1 ≤ 2 ^ 40) : ∃ f : Int, F__law_blended [stD] (mu gs cs lf tn rest) = .ok (.int f) (mu gs cs lf (tn + 1) rest) := by
  have key := forG_all (I := srcL (lstG (consG (cG (.int 2147483249)) (consG (cG (.int 2147483237)) (consG (cG (.int 2147483179)) nilG))))) (set := nmF 3)
    (body := seqG (setG (nmF 4) (opG addD (opG mulD (cG (.int 39373)) (vG 1)) (opG fdivD (vG 3) (cG (.int 73))))) (seqG (forG (srcG (dgetG (vG 0) (cG (.str "cells")))) (nmF 5) (setG (nmF 4) (opG modD (caG (c1 intC) (consG (opG addD (opG addD (opG mulD (vG 4) (cG (.int 69621))) (vG 5)) (vG 1)) nilG)) (vG 3)))) (setG (nmF 2) (opG addD (opG mulD (vG 2) (cG (.int 2147483647))) (opG modD (caG (c1 intC) (consG (opG powD (vG 4) (cG (.int 5))) nilG)) (vG 3))))))
    (δ := [some stD, some (.int (tn + 1)), some (.int 0), none, none, none]) (μ := mu gs cs lf (tn + 1) rest)
    (fun _ δ ν => ∃ (f : Int) (x3 x4 x5 : Option D), δ = [some stD, some (.int (tn + 1)), some (.int f), x3, x4, x5] ∧ ν = mu gs cs lf (tn + 1) rest)
    (srcL_ok (lstG_ok (consG_ok cG_ok (consG_ok cG_ok (consG_ok cG_ok nilG_ok))) (by rw [sizeLine_eq]; show 3 ≤ _; omega))) (fun _ _ _ _ => rfl) (by
      rintro i d δ ν hd ⟨f, x3, x4, x5, rfl, rfl⟩
      obtain ⟨p, rfl, p1, p2⟩ : ∃ p : Int, d = .int p ∧ 0 < p ∧ p < 2147483648 := by
        rcases mem3 rfl hd with rfl | rfl | rfl
        · exact ⟨_, rfl, by decide, by decide⟩
        · exact ⟨_, rfl, by decide, by decide⟩
        · exact ⟨_, rfl, by decide, by decide⟩
      refine ⟨[some stD, some (.int (tn + 1)), some (.int f), some (.int p), x4, x5], rfl, ?_⟩
      have hb0 : opG addD (opG mulD (cG (.int 39373)) (vG 1)) (opG fdivD (vG 3) (cG (.int 73))) [some stD, some (.int (tn + 1)), some (.int f), some (.int p), x4, x5] (mu gs cs lf (tn + 1) rest) = .ok (.int (39373 * (tn + 1) + p / 73)) (mu gs cs lf (tn + 1) rest) := by
        refine (opG_ok (x := .int (39373 * (tn + 1))) (y := .int (p / 73)) (μ1 := mu gs cs lf (tn + 1) rest) (μ2 := mu gs cs lf (tn + 1) rest) ?_ ?_).trans rfl
        · exact (opG_ok cG_ok (vG_at rfl)).trans (mulD_int _ (.inl (by decide)))
        · exact (opG_ok (vG_at rfl) cG_ok).trans (fdivD_int _ (by decide))
      have key2 := forG_all (I := srcG (dgetG (vG 0) (cG (.str "cells")))) (set := nmF 5) (body := setG (nmF 4) (opG modD (caG (c1 intC) (consG (opG addD (opG addD (opG mulD (vG 4) (cG (.int 69621))) (vG 5)) (vG 1)) nilG)) (vG 3)))
        (δ := [some stD, some (.int (tn + 1)), some (.int f), some (.int p), some (.int (39373 * (tn + 1) + p / 73)), x5]) (μ := mu gs cs lf (tn + 1) rest)
        (fun _ δ ν => ∃ (b : Int) (x5 : Option D), δ = [some stD, some (.int (tn + 1)), some (.int f), some (.int p), some (.int b), x5] ∧ b.natAbs < 2 ^ 64 ∧ ν = mu gs cs lf (tn + 1) rest)
        (srcG_loc (g_cells rfl) rfl) (fun _ _ _ ⟨_, _, _, _, e⟩ => by rw [e]; exact decide_eq_true rfl) (by
          rintro i d δ ν hd ⟨b, x5, rfl, hb, rfl⟩
          obtain ⟨c, rfl⟩ : ∃ c : Int, d = .int c := by
            have z := List.mem_of_getElem? hd
            obtain ⟨c, _, e⟩ := List.mem_map.mp z
            exact ⟨c, e.symm⟩
          refine ⟨[some stD, some (.int (tn + 1)), some (.int f), some (.int p), some (.int b), some (.int c)], rfl, ?_⟩
          have e1 : opG modD (caG (c1 intC) (consG (opG addD (opG addD (opG mulD (vG 4) (cG (.int 69621))) (vG 5)) (vG 1)) nilG)) (vG 3) [some stD, some (.int (tn + 1)), some (.int f), some (.int p), some (.int b), some (.int c)] (mu gs cs lf (tn + 1) rest) = .ok (.int ((b * 69621 + c + (tn + 1)) % p)) (mu gs cs lf (tn + 1) rest) := by
            refine (opG_ok (x := .int (b * 69621 + c + (tn + 1))) (y := .int p) (μ1 := mu gs cs lf (tn + 1) rest) (μ2 := mu gs cs lf (tn + 1) rest) ?_ (vG_at rfl)).trans (modD_int _ p1)
            refine (caG_ok (consG_ok ((opG_ok (x := .int (b * 69621 + c)) (y := .int (tn + 1)) (μ1 := mu gs cs lf (tn + 1) rest) (μ2 := mu gs cs lf (tn + 1) rest) ?_ (vG_at rfl)).trans (addD_int _ _ _)) nilG_ok)).trans rfl
            refine (opG_ok (x := .int (b * 69621)) (y := .int c) (μ1 := mu gs cs lf (tn + 1) rest) (μ2 := mu gs cs lf (tn + 1) rest) ?_ (vG_at rfl)).trans (addD_int _ _ _)
            exact (opG_ok (vG_at rfl) cG_ok).trans (mulD_int _ (.inr (by decide)))
          refine ⟨_, _, setG_nm e1, _, _, rfl, ?_, rfl⟩
          have q1 := Int.emod_nonneg (b * 69621 + c + (tn + 1)) (show p ≠ 0 by omega)
          have q2 := Int.emod_lt_of_pos (b * 69621 + c + (tn + 1)) p1
          omega) ⟨_, _, rfl, by omega, rfl⟩
      obtain ⟨δ2, ν2, e2, b, x5', rfl, hb, rfl⟩ := key2
      have e3 : opG addD (opG mulD (vG 2) (cG (.int 2147483647))) (opG modD (caG (c1 intC) (consG (opG powD (vG 4) (cG (.int 5))) nilG)) (vG 3)) [some stD, some (.int (tn + 1)), some (.int f), some (.int p), some (.int b), x5'] (mu gs cs lf (tn + 1) rest) = .ok (.int (f * 2147483647 + b ^ (5 : Int).toNat % p)) (mu gs cs lf (tn + 1) rest) := by
        refine (opG_ok (x := .int (f * 2147483647)) (y := .int (b ^ (5 : Int).toNat % p)) (μ1 := mu gs cs lf (tn + 1) rest) (μ2 := mu gs cs lf (tn + 1) rest) ?_ ?_).trans (addD_int _ _ _)
        · exact (opG_ok (vG_at rfl) cG_ok).trans (mulD_int _ (.inr (by decide)))
        · refine (opG_ok (x := .int (b ^ (5 : Int).toNat)) (y := .int p) (μ1 := mu gs cs lf (tn + 1) rest) (μ2 := mu gs cs lf (tn + 1) rest) ?_ (vG_at rfl)).trans (modD_int _ p1)
          exact (caG_ok (consG_ok ((opG_ok (vG_at rfl) cG_ok).trans (powD_int _ ⟨by decide, by decide, hb⟩)) nilG_ok)).trans rfl
      exact ⟨_, _, (seqG_nx (setG_nm hb0)).trans ((seqG_nx e2).trans (setG_nm e3)), _, _, _, _, rfl, rfl⟩) ⟨0, none, none, none, rfl, rfl⟩
  obtain ⟨δ1, ν1, e1, f, x3, x4, x5, rfl, rfl⟩ := key
  refine ⟨f, trimW_id (fnG_rt (n := 6) ?_) rfl⟩
  have ht : opG addD (dgetG (vG 0) (cG (.str "turn"))) (cG (.int 1)) [some stD, none, none, none, none, none] (mu gs cs lf tn rest) = .ok (.int (tn + 1)) (mu gs cs lf tn rest) := (opG_ok (g_turn rfl) cG_ok).trans (addD_int _ _ _)
  have h2 : parG 1 2 (consG (opG addD (dgetG (vG 0) (cG (.str "turn"))) (cG (.int 1))) (consG (cG (.int 0)) nilG)) [some stD, none, none, none, none, none] (mu gs cs lf tn rest) = .nx [some stD, some (.int (tn + 1)), some (.int 0), none, none, none] (mu gs cs lf tn rest) := by
    unfold parG
    rw [thenS_ok (consG_ok ht (consG_ok cG_ok nilG_ok))]; rfl
  refine (seqG_nx h2).trans ((seqG_nx (s_turn rfl (vG_at rfl))).trans ((seqG_nx e1).trans (retG_ok (vG_at rfl))))
/-- a number is drawn -/
theorem e_draw {rest : Store} {B : Nat} {μ : Store} (h : Good rest (B + 1) μ) {k : Int} (k1 : 0 < k) (k2 : k < 1073741824) : ∃ (r : Int) (μ' : Store), F__law_draw [stD, .int k] μ = .ok (.int r) μ' ∧ Good rest B μ' ∧ 0 ≤ r ∧ r < k := by
  obtain ⟨gs, cs, lf, tn, h0, h1, rfl⟩ := h
  have step : ∃ (gs' : List Int) (lf' tn' : Int), 0 ≤ tn' ∧ tn' + B ≤ 2 ^ 40 ∧ iteG (tB1 (opG (eqD false) (dgetG (vG 0) (cG (.str "left"))) (cG (.int 0)))) (dputG (vG 0) (cG (.str "left")) (ifG (tB1 (nilLG true (.val (dgetG (vG 0) (cG (.str "great")))))) (popG (dgetG (vG 0) (cG (.str "great"))) (cG (.int 0))) (callG F__law_blended (consG (vG 0) nilG)))) nextG [some stD, some (.int k), none] (mu gs cs lf tn rest) = .nx [some stD, some (.int k), none] (mu gs' cs lf' tn' rest) := by
    have c1 : tB1 (opG (eqD false) (dgetG (vG 0) (cG (.str "left"))) (cG (.int 0))) [some stD, some (.int k), none] (mu gs cs lf tn rest) = .ok (decide (lf = 0)) (mu gs cs lf tn rest) := tB1_ok ((opG_ok (g_left rfl) cG_ok).trans (eqD_int _ _ _ _))
    by_cases hl : lf = 0
    · rw [decide_eq_true hl] at c1
      have c2 : tB1 (nilLG true (.val (dgetG (vG 0) (cG (.str "great"))))) [some stD, some (.int k), none] (mu gs cs lf tn rest) = .ok (!gs.isEmpty) (mu gs cs lf tn rest) := by
        refine tB1_ok ?_
        unfold nilLG opdG
        show bnd (dgetG (vG 0) (cG (.str "great")) [some stD, some (.int k), none]) (fun d => bnd (locL d) fun xs => ret (D.bl (if true = true then !xs.isEmpty else xs.isEmpty))) (mu gs cs lf tn rest) = _
        rw [bnd_ok (g_great rfl), bnd_ok (show locL (.loc 0) (mu gs cs lf tn rest) = .ok (gs.map D.int) (mu gs cs lf tn rest) from rfl)]
        cases gs <;> rfl
      cases gs with
      | nil =>
        obtain ⟨f, hf⟩ := e_blended (gs := []) (cs := cs) (lf := lf) (tn := tn) (rest := rest) h0 (by omega)
        exact ⟨[], f, tn + 1, by omega, by omega, (iteG_t c1).trans (s_left rfl ((ifG_f c2).trans ((callG_ok (consG_ok (vG_at rfl) nilG_ok)).trans hf)))⟩
      | cons g gs =>
        refine ⟨gs, g, tn, h0, by omega, (iteG_t c1).trans (s_left (lf := lf) rfl ((ifG_t c2).trans ?_))⟩
        exact (popG_at (i := 0) (g_great rfl) ⟨_, rfl⟩ cG_ok rfl (by simp) (by decide) rfl).trans rfl
    · rw [decide_eq_false hl] at c1
      exact ⟨gs, lf, tn, h0, by omega, iteG_f c1⟩
  obtain ⟨gs', lf', tn', t0, t1, e1⟩ := step
  refine ⟨lf' % k, mu gs' cs (lf' / k) tn' rest, trimW_id (fnG_rt (n := 3) ?_) rfl, ⟨gs', cs, _, tn', t0, t1, rfl⟩, Int.emod_nonneg _ (by omega), Int.emod_lt_of_pos _ k1⟩
  refine (seqG_nx e1).trans ?_
  have e2 : opG modD (caG (c1 intC) (consG (dgetG (vG 0) (cG (.str "left"))) nilG)) (vG 1) [some stD, some (.int k), none] (mu gs' cs lf' tn' rest) = .ok (.int (lf' % k)) (mu gs' cs lf' tn' rest) :=
    (opG_ok (x := .int lf') ((caG_ok (consG_ok (g_left rfl) nilG_ok)).trans rfl) (vG_at rfl)).trans (modD_int _ k1)
  refine (seqG_nx (setG_nm e2)).trans ?_
  have e3 : opG fdivD (dgetG (vG 0) (cG (.str "left"))) (vG 1) [some stD, some (.int k), some (.int (lf' % k))] (mu gs' cs lf' tn' rest) = .ok (.int (lf' / k)) (mu gs' cs lf' tn' rest) := (opG_ok (g_left rfl) (vG_at rfl)).trans (fdivD_int _ ⟨k1, k2⟩)
  exact (seqG_nx (s_left rfl e3)).trans (retG_ok (vG_at rfl))
end K23

set_option autoImplicit false
/-! What the law draws: lots, groups. -/
namespace K23
open PySem L2 Sim
theorem atI_nat {α : Type} {xs : List α} {r : Int} (h0 : 0 ≤ r) (h1 : r < xs.length) : atI xs r = xs[r.toNat]? := by
  unfold atI ixN
  simp [h0, h1]
theorem ix_tup {ds : List D} {r : Int} {c : D} {μ : Store} (h0 : 0 ≤ r) (hc : ds[r.toNat]? = some c) : ixD (.tup ds) (.int r) μ = .ok c μ := by
  have h1 : r < ds.length := by have := (List.getElem?_eq_some_iff.mp hc).1; omega
  unfold ixD
  show (match atI ds r with | some c => Rs.ok c μ | none => .stuck) = _
  rw [atI_nat h0 h1, hc]
theorem e_pick {rest : Store} {B : Nat} {μ : Store} (h : Good rest (B + 1) μ) {L : List (List Int)} (hn : L ≠ []) (hl : L.length ≤ 64) : ∃ l ∈ L, ∃ μ', F__law_pick [stD, tupsD L] μ = .ok (tupI l) μ' ∧ Good rest B μ' := by
  have hp : 0 < L.length := List.length_pos_iff.mpr hn
  obtain ⟨r, μ', h1, h2, h3, h4⟩ := e_draw h (k := L.length) (by omega) (by omega)
  have hr : r.toNat < L.length := by omega
  refine ⟨L[r.toNat], List.getElem_mem hr, μ', trimW_id (fnG_rt (n := 2) (retG_ok ?_)) ?_, h2⟩
  · refine (opG_ok (x := tupsD L) (y := .int r) (μ1 := μ) (μ2 := μ') (vG_at rfl) ((callG_ok (consG_ok (vG_at rfl) (consG_ok ((caG_ok (consG_ok (vG_at rfl) nilG_ok)).trans (lenD_tup _ _)) nilG_ok))).trans ?_)).trans ?_
    · rw [List.length_map]; exact h1
    · refine ix_tup h3 ?_
      rw [List.getElem?_map, List.getElem?_eq_getElem hr]; rfl
  · obtain ⟨gs, cs, lf, tn, _, _, rfl⟩ := h
    obtain ⟨gs', cs', lf', tn', _, _, rfl⟩ := h2
    rfl
theorem good_len {rest : Store} {B C : Nat} {μ μ' : Store} (h : Good rest B μ) (h' : Good rest C μ') : μ'.length = μ.length := by
  obtain ⟨gs, cs, lf, tn, _, _, rfl⟩ := h
  obtain ⟨gs', cs', lf', tn', _, _, rfl⟩ := h'
  rfl
/-- a comprehension whose test draws -/
theorem lcL_sub {α : Type} {own : List Nat} {set : TgF} {tst : BG} {elt : EG} {chk : Store → Bool} {δ : Dn} (e f : α → D) (P : Nat → Store → Prop) (hc : ∀ B μ, P B μ → chk μ = true) :
    ∀ (as : List α) (acc : List D) (B : Nat) (μ : Store), (∀ a ∈ as, ∃ δ1, set (e a) (wipeD δ own) = some δ1 ∧ ∀ B μ, P (B + 1) μ → ∃ b μ', tst δ1 μ = .ok b μ' ∧ P B μ' ∧ elt δ1 μ' = .ok (f a) μ') → P (B + as.length) μ →
      ∃ (ys : List α) (μ' : Store), ys.Sublist as ∧ lcL false own set tst elt chk δ (as.map e) acc μ = .ok (acc ++ ys.map f) μ' ∧ P B μ'
  | [], acc, B, μ, _, hp => ⟨[], μ, .slnil, by simp [lcL, hc _ _ hp], hp⟩
  | a :: as, acc, B, μ, h, hp => by
    obtain ⟨δ1, h1, h2⟩ := h a List.mem_cons_self
    obtain ⟨b, μ1, h3, h4, h5⟩ := h2 (B + as.length) μ (by rw [List.length_cons] at hp; exact hp)
    cases b with
    | false =>
      obtain ⟨ys, μ', s, e2, hp'⟩ := lcL_sub e f P hc as acc B μ1 (fun x hx => h x (List.mem_cons_of_mem _ hx)) h4
      refine ⟨ys, μ', s.cons a, ?_, hp'⟩
      rw [List.map_cons, lcL]
      simp only [hc _ _ hp, if_true, h1, h3, Bool.false_eq_true, if_false]
      exact e2
    | true =>
      obtain ⟨ys, μ', s, e2, hp'⟩ := lcL_sub e f P hc as (acc ++ [f a]) B μ1 (fun x hx => h x (List.mem_cons_of_mem _ hx)) h4
      refine ⟨a :: ys, μ', s.cons₂ a, ?_, hp'⟩
      rw [List.map_cons, lcL]
      simp only [hc _ _ hp, if_true, h1, h3, h5, Bool.false_eq_true, false_and, if_false]
      rw [e2]
      simp
theorem sub_grp {m : Nat} (hm : m ≤ 7) {k g : List Int} (h : grpB m k = true) (s : g.Sublist k) : grpB m g = true := by
  obtain ⟨h1, h2⟩ := (grpB_iff hm).mp h
  exact (grpB_iff hm).mpr ⟨h1.sublist s, fun x hx => h2 x (s.subset hx)⟩
theorem people_grp {m : Nat} (hm : m ≤ 7) : grpB m (people m) = true := (grpB_iff hm).mpr ⟨people_asc m, fun x hx => mem_people.mp hx⟩
theorem e_group {rest : Store} {B : Nat} {μ : Store} {m : Nat} (hm : m ≤ 7) (h : Good rest (B + m) μ) : ∃ g μ', F__law_ll_group [stD, .int m] μ = .ok (tupI g) μ' ∧ Good rest B μ' ∧ grpB m g = true := by
  obtain ⟨g, μ', s, e, hg⟩ := lcL_sub (own := [2]) (set := nmF 2) (tst := tB1 (opG (eqD false) (callG F__law_draw (consG (vG 0) (consG (cG (.int 2)) nilG))) (cG (.int 0)))) (elt := vG 2) (chk := fun _ => true) (δ := [some stD, some (.int m), none]) D.int D.int (Good rest) (fun _ _ _ => rfl) (people m) [] B μ (fun a _ => ⟨_, rfl, fun B μ h => by
    obtain ⟨r, μ', h1, h2, h3, h4⟩ := e_draw h (k := 2) (by decide) (by decide)
    refine ⟨_, μ', tB1_ok ((opG_ok ((callG_ok (consG_ok (vG_at rfl) (consG_ok cG_ok nilG_ok))).trans h1) cG_ok).trans (eqD_int _ _ _ _)), h2, vG_at rfl⟩⟩) (by rw [people_len]; exact h)
  refine ⟨g, μ', trimW_id (fnG_rt (n := 3) (retG_ok ?_)) (good_len h hg), hg, sub_grp hm (people_grp hm) s⟩
  refine (cLG_ok (g := tupC) (xs := g.map D.int) (μ1 := μ') ?_)
  unfold lcG
  rw [bnd_ok (rng1_ok (consG_ok (vG_at rfl) nilG_ok) (by omega))]
  simpa using e
theorem e_rest {m : Nat} (hm : m ≤ 7) (g : List Int) (μ : Store) : F__law_ll_rest [.int m, tupI g] μ = .ok (tupI (others m g)) μ := e_others_of hm g μ
theorem others_len (m : Nat) (g : List Int) : (others m g).length ≤ m := Nat.le_trans (List.length_filter_le _ _) (by rw [people_len]; exact Nat.le_refl _)
def leftOf (a b c : List Int) : List Int := a.filter fun x => decide (x ∈ b) && !decide (x ∈ c)
theorem e_truth (a b : Bool) (μ : Store) : F__law_is_truth [.bl a, .bl b] μ = .ok (.bl (decide (a = b))) μ := by
  refine trimP_id ?_
  cases a <;> cases b <;> rfl
theorem e_ll_within (a b : List Int) (μ : Store) : F__law_ll_within [tupI a, tupI b] μ = .ok (.bl (within a b)) μ := by
  refine trimP_id (fnG_rt (n := 3) (retG_ok ?_))
  have h1 : lcG [2] (srcG (vG 0)) (nmF 2) (tB1 (opG (inD true) (vG 2) (vG 1))) (cG (.int 1)) [some (tupI a), some (tupI b), none] μ = .ok ((a.filter fun x => !decide (x ∈ b)).map fun _ => D.int 1) μ :=
    lcG_typed (own := [2]) D.int (fun x => !decide (x ∈ b)) (fun _ => D.int 1) a (chk := fun _ => true) (srcG_tup (vG_at rfl)) rfl fun x _ => ⟨_, rfl, tB1_ok ((opG_ok (vG_at rfl) (vG_at rfl)).trans (inD_tup _ _ _ _)), fun _ => rfl⟩
  unfold nilLG opdG
  show bnd (lcG [2] (srcG (vG 0)) (nmF 2) (tB1 (opG (inD true) (vG 2) (vG 1))) (cG (.int 1)) [some (tupI a), some (tupI b), none]) (fun ds => bnd (ret ds) fun xs => ret (D.bl (if false = true then !xs.isEmpty else xs.isEmpty))) μ = _
  rw [bnd_ok h1]
  show Rs.ok (D.bl (((a.filter fun x => !decide (x ∈ b)).map fun _ => D.int 1).isEmpty)) μ = _
  have z : ((a.filter fun x => !decide (x ∈ b)).map fun _ => D.int 1).isEmpty = within a b := by
    rw [Bool.eq_iff_iff, within_iff, List.isEmpty_iff, List.map_eq_nil_iff, List.filter_eq_nil_iff]
    simp
  rw [z]
end K23

set_option autoImplicit false
/-! Lists in another order; the law's own triples. -/
namespace K23
open PySem L2 Sim
section
variable {a b : EG} {δ : Dn} {μ μ1 : Store} {n : Nat} {ds : List D} {c : D}
theorem appMG_at (ha : a δ μ = .ok (.loc n) μ) (h0 : ∃ es, μ[n]? = some (.lst es)) (hb : b δ μ = .ok c μ1) (hn : μ1[n]? = some (.lst ds)) (hl : ds.length < sizeLine) : appMG a b δ μ = .ok .non (μ1.set n (.lst (ds ++ [c]))) := by
  obtain ⟨es, h0⟩ := h0
  have e0 : asL (.loc n) μ = .ok (.loc n) μ := by
    unfold asL
    have e : locL (.loc n) μ = .ok es μ := by
      unfold locL
      simp only [h0]
    rw [bnd_ok e]; rfl
  have e1 : locL (.loc n) μ1 = .ok ds μ1 := by
    unfold locL
    simp only [hn]
  unfold appMG
  rw [bnd_ok ha, bnd_ok e0, bnd_ok hb, bnd_ok e1]
  simp only [if_pos hl]
theorem lenD_loc (hn : μ[n]? = some (.lst ds)) : c1 lenD [.loc n] μ = .ok (.int ds.length) μ := by
  show (match seqOf (.loc n) μ with | some (_, es) => Rs.ok (D.int (es.length : Nat)) μ | none => .stuck) = _
  unfold seqOf
  simp only [hn]
theorem nilLG_val {neg : Bool} (ha : a δ μ = .ok (.loc n) μ1) (hn : μ1[n]? = some (.lst ds)) : nilLG neg (.val a) δ μ = .ok (.bl (if neg then !ds.isEmpty else ds.isEmpty)) μ1 := by
  unfold nilLG opdG
  show bnd (a δ) (fun d => bnd (locL d) fun xs => ret (D.bl (if neg = true then !xs.isEmpty else xs.isEmpty))) μ = _
  rw [bnd_ok ha]
  refine (bnd_ok (a := ds) (μ' := μ1) ?_).trans rfl
  unfold locL
  simp only [hn]
theorem nilLG_new {neg : Bool} {l : AG} (ha : l δ μ = .ok ds μ1) : nilLG neg (.new l) δ μ = .ok (.bl (if neg then !ds.isEmpty else ds.isEmpty)) μ1 := by
  unfold nilLG opdG
  show bnd (l δ) (fun ds => bnd (ret ds) fun xs => ret (D.bl (if neg = true then !xs.isEmpty else xs.isEmpty))) μ = _
  rw [bnd_ok ha]; rfl
theorem catG_vn {l : AG} {es : List D} (ha : a δ μ = .ok (.loc n) μ) (hn : μ1[n]? = some (.lst ds)) (hb : l δ μ = .ok es μ1) (hl : ds.length + es.length ≤ sizeLine) : catG (.val a) (.new l) δ μ = .ok (ds ++ es) μ1 := by
  unfold catG opdG
  show bnd (a δ) (fun d => bnd (l δ) fun es => bnd (locL d) fun xs => bnd (ret es) fun ys => fit (xs.length + ys.length) (ret (xs ++ ys))) μ = _
  rw [bnd_ok ha, bnd_ok hb]
  refine (bnd_ok (a := ds) (μ' := μ1) ?_).trans ?_
  · unfold locL
    simp only [hn]
  · show fit (ds.length + es.length) (ret (ds ++ es)) μ1 = _
    rw [fit_ok hl]; rfl
end
theorem good_app {rest more : Store} {B : Nat} {μ : Store} (h : Good rest B μ) : Good (rest ++ more) B (μ ++ more) := by
  obtain ⟨gs, cs, lf, tn, h1, h2, rfl⟩ := h
  exact ⟨gs, cs, lf, tn, h1, h2, rfl⟩
theorem good_get {rest : Store} {B : Nat} {μ : Store} (h : Good rest B μ) (i : Nat) : μ[i + 3]? = rest[i]? := by
  obtain ⟨gs, cs, lf, tn, h1, h2, rfl⟩ := h
  rfl
theorem good_set {rest : Store} {B : Nat} {μ : Store} (h : Good rest B μ) (i : Nat) (o : Ob) : Good (rest.set i o) B (μ.set (i + 3) o) := by
  obtain ⟨gs, cs, lf, tn, h1, h2, rfl⟩ := h
  exact ⟨gs, cs, lf, tn, h1, h2, rfl⟩
theorem good_length {rest : Store} {B : Nat} {μ : Store} (h : Good rest B μ) : μ.length = rest.length + 3 := by
  obtain ⟨gs, cs, lf, tn, h1, h2, rfl⟩ := h
  rfl
theorem get_two (rest : Store) (x y : Ob) : (rest ++ [x, y])[rest.length]? = some x ∧ (rest ++ [x, y])[rest.length + 1]? = some y := by
  constructor <;> simp
theorem set_two (rest : Store) (x y u v : Ob) : ((rest ++ [x, y]).set rest.length u).set (rest.length + 1) v = rest ++ [u, v] := by simp
/-- a list in another order -/
theorem e_mixed {rest : Store} {B : Nat} {μ : Store} {n : Nat} {xs : List D} (hx : xs.length < 900) (h : Good rest (B + xs.length) μ) (hn : μ[n]? = some (.lst xs)) :
    ∃ ys μ', F__law_mixed [stD, .loc n] μ = .ok (.loc (rest.length + 4)) μ' ∧ Good (rest ++ [.lst [], .lst ys]) B μ' ∧ ys.Perm xs := by
  have hz := sizeLine_eq
  have loop : ∀ (k : Nat) (ls fs : List D) (ν : Store), ls.length < k → (fs ++ ls).Perm xs → Good (rest ++ [.lst ls, .lst fs]) (B + ls.length) ν → ∃ ys ν', whileG (tB1 (nilLG true (.val (vG 2)))) (dropG (appMG (vG 3) (popG (vG 2) (callG F__law_draw (consG (vG 0) (consG (caG (c1 lenD) (consG (vG 2) nilG)) nilG)))))) k [some stD, some (.loc n), some (.loc (rest.length + 3)), some (.loc (rest.length + 4))] ν =
      .nx [some stD, some (.loc n), some (.loc (rest.length + 3)), some (.loc (rest.length + 4))] ν' ∧ Good (rest ++ [.lst [], .lst ys]) B ν' ∧ ys.Perm xs := by
    intro k
    induction k with
    | zero => intro ls fs ν hk; omega
    | succ k ih =>
      intro ls fs ν hk hp hg
      have g2 : ν[rest.length + 3]? = some (.lst ls) := (good_get hg rest.length).trans (get_two rest _ _).1
      have g3 : ν[rest.length + 4]? = some (.lst fs) := (good_get hg (rest.length + 1)).trans (get_two rest _ _).2
      have kk : tB1 (nilLG true (.val (vG 2))) [some stD, some (.loc n), some (.loc (rest.length + 3)), some (.loc (rest.length + 4))] ν = .ok (!ls.isEmpty) ν := tB1_ok (nilLG_val (vG_at rfl) g2)
      cases ls with
      | nil =>
        refine ⟨fs, ν, ?_, hg, by simpa using hp⟩
        rw [whileG, kk]; rfl
      | cons l ls =>
        have hk2 : (l :: ls).length = ls.length + 1 := rfl
        have hlen : fs.length + (ls.length + 1) = xs.length := by
          have z := hp.length_eq
          rw [List.length_append, hk2] at z
          exact z
        obtain ⟨r, ν1, d1, d2, d3, d4⟩ := e_draw (k := ((l :: ls).length : Nat)) (B := B + ls.length) (rest := rest ++ [.lst (l :: ls), .lst fs]) (μ := ν) (by rw [hk2] at hg; rw [Nat.add_assoc]; exact hg) (by rw [hk2]; omega) (by rw [hk2]; omega)
        have hr : r.toNat < (l :: ls).length := by omega
        have er : r = ((r.toNat : Nat) : Int) := by omega
        have g2' : ν1[rest.length + 3]? = some (.lst (l :: ls)) := (good_get d2 rest.length).trans (get_two rest _ _).1
        have g3' : ν1[rest.length + 4]? = some (.lst fs) := (good_get d2 (rest.length + 1)).trans (get_two rest _ _).2
        have e1 : popG (vG 2) (callG F__law_draw (consG (vG 0) (consG (caG (c1 lenD) (consG (vG 2) nilG)) nilG))) [some stD, some (.loc n), some (.loc (rest.length + 3)), some (.loc (rest.length + 4))] ν = .ok ((l :: ls)[r.toNat]) (ν1.set (rest.length + 3) (.lst ((l :: ls).eraseIdx r.toNat))) := by
          refine popG_at (i := r.toNat) (vG_at rfl) ⟨_, g2⟩ ?_ g2' hr (by omega) (List.getElem?_eq_getElem hr)
          rw [← er]
          exact (callG_ok (consG_ok (vG_at rfl) (consG_ok ((caG_ok (consG_ok (vG_at rfl) nilG_ok)).trans (lenD_loc g2)) nilG_ok))).trans d1
        have d5 := good_set d2 rest.length (.lst ((l :: ls).eraseIdx r.toNat))
        have g3'' : (ν1.set (rest.length + 3) (.lst ((l :: ls).eraseIdx r.toNat)))[rest.length + 4]? = some (.lst fs) := by
          rw [List.getElem?_set_ne (by omega)]; exact g3'
        have e2 := appMG_at (a := vG 3) (δ := [some stD, some (.loc n), some (.loc (rest.length + 3)), some (.loc (rest.length + 4))]) (vG_at rfl) ⟨_, g3⟩ e1 g3'' (by omega)
        have d6 := good_set d5 (rest.length + 1) (.lst (fs ++ [(l :: ls)[r.toNat]]))
        rw [set_two] at d6
        have el : ((l :: ls).eraseIdx r.toNat).length = ls.length := by rw [List.length_eraseIdx_of_lt hr, hk2]; rfl
        have hperm : ((fs ++ [(l :: ls)[r.toNat]]) ++ (l :: ls).eraseIdx r.toNat).Perm xs := by
          refine List.Perm.trans ?_ hp
          rw [List.append_assoc]
          exact (erase_perm (l :: ls) r.toNat _ (List.getElem?_eq_getElem hr)).append_left fs
        obtain ⟨ys, ν', w1, w2, w3⟩ := ih _ _ _ (by rw [el]; omega) hperm (by rw [el]; exact d6)
        refine ⟨ys, ν', ?_, w2, w3⟩
        rw [whileG, kk]
        show (match dropG _ _ ν with | .nx δ2 μ2 => whileG _ _ k δ2 μ2 | .ct δ2 μ2 => whileG _ _ k δ2 μ2 | .bk δ2 μ2 => Ss.nx δ2 μ2 | r => r) = _
        rw [dropG_ok e2]
        exact w1
  obtain ⟨ys, ν', w1, w2, w3⟩ := loop 1000 xs [] (μ ++ [.lst xs, .lst []]) (by omega) (by simp) (good_app h)
  refine ⟨ys, ν', fnG_rt (n := 4) ?_, w2, w3⟩
  have hl := good_length h
  have e1 : parG 2 3 (consG (allocG (lstOfG (vG 1))) (consG (allocG (lstG nilG)) nilG)) [some stD, some (.loc n), none, none] μ = .nx [some stD, some (.loc n), some (.loc (rest.length + 3)), some (.loc (rest.length + 4))] (μ ++ [.lst xs, .lst []]) := by
    have q1 : lstOfG (vG 1) [some stD, some (.loc n), none, none] μ = .ok xs μ := by
      unfold lstOfG
      refine (bnd_ok (vG_at rfl)).trans ?_
      show (match seqOf (.loc n) μ with | some (_, es) => Rs.ok es μ | none => .stuck) = _
      unfold seqOf
      simp only [hn]
    have q2 := allocG_ok (a := lstOfG (vG 1)) q1
    have q3 := allocG_ok (a := lstG nilG) (δ := [some stD, some (.loc n), none, none]) (μ := μ ++ [.lst xs]) (lstG_ok nilG_ok (Nat.zero_le _))
    unfold parG
    rw [thenS_ok (consG_ok q2 (consG_ok q3 nilG_ok))]
    show Ss.nx [some stD, some (.loc n), some (.loc μ.length), some (.loc (μ ++ [Ob.lst xs]).length)] (μ ++ [.lst xs] ++ [.lst []]) = _
    rw [List.length_append, hl, List.append_assoc]; rfl
  exact (seqG_nx e1).trans ((seqG_nx w1).trans (retG_ok (vG_at rfl)))
end K23

set_option autoImplicit false
/-! The law's own triples. -/
namespace K23
open PySem L2 Sim
theorem rng2_ok {a : AG} {δ : Dn} {μ μ1 : Store} {i n : Nat} (h : a δ μ = .ok [.int (i : Nat), .int (n : Nat)] μ1) (hn : n ≤ 1000) (hi : i ≤ n) : rng2G a δ μ = .ok ⟨(List.range (n - i)).map fun j => D.int ((i + j : Nat) : Int), fun _ => true⟩ μ1 := by
  unfold rng2G
  rw [bnd_ok h]
  unfold rng2S
  have e : (((n : Nat) : Int) - ((i : Nat) : Int)).toNat = n - i := by omega
  have z : (-(2 ^ 62) ≤ ((i : Nat) : Int) ∧ ((i : Nat) : Int) < 2 ^ 62 ∧ -(2 ^ 62) ≤ ((n : Nat) : Int) ∧ ((n : Nat) : Int) < 2 ^ 62) ∧ (((n : Nat) : Int) - ((i : Nat) : Int)).toNat ≤ sizeLine := ⟨by omega, by rw [sizeLine_eq]; omega⟩
  simp only [if_pos z]
  rw [e]
  show Rs.ok (rngS _ _) μ1 = _
  unfold rngS
  congr 1
theorem ix_lot {L : List (List Int)} {i : Nat} (hi : i < L.length) (μ : Store) : ixD (tupsD L) (.int (i : Nat)) μ = .ok (tupI (L.getD i [])) μ := by
  refine ix_tup (by omega) ?_
  rw [Int.toNat_natCast, List.getElem?_map, List.getD_eq_getElem?_getD, List.getElem?_eq_getElem hi]; rfl
theorem drop_range {L : List (List Int)} (q : Nat) : L.drop q = (List.range (L.length - q)).map fun k => L.getD (q + k) [] := by
  apply List.ext_getElem?
  intro k
  rw [List.getElem?_drop, List.getElem?_map]
  by_cases h : k < L.length - q
  · rw [List.getElem?_range h, List.getElem?_eq_getElem (by omega)]
    show _ = some (L.getD (q + k) [])
    rw [List.getD_eq_getElem?_getD, List.getElem?_eq_getElem (by omega)]; rfl
  · rw [List.getElem?_eq_none (by omega), List.getElem?_eq_none (by rw [List.length_range]; omega)]; rfl
theorem people_get {m i : Nat} {d : D} (h : ((people m).map D.int)[i]? = some d) : i < m ∧ d = .int (i : Nat) := by
  unfold people at h
  rw [List.map_map, List.getElem?_map] at h
  obtain ⟨j, h1, rfl⟩ := Option.map_eq_some_iff.mp h
  obtain ⟨h2, h3⟩ := List.getElem?_eq_some_iff.mp h1
  rw [List.getElem_range] at h3
  rw [List.length_range] at h2
  subst h3
  exact ⟨h2, rfl⟩
theorem range_get {n i : Nat} {f : Nat → D} {d : D} (h : ((List.range n).map f)[i]? = some d) : i < n ∧ d = f i := by
  rw [List.getElem?_map] at h
  obtain ⟨j, h1, rfl⟩ := Option.map_eq_some_iff.mp h
  obtain ⟨h2, h3⟩ := List.getElem?_eq_some_iff.mp h1
  rw [List.getElem_range] at h3
  rw [List.length_range] at h2
  subst h3
  exact ⟨h2, rfl⟩
theorem len_lots {L : List (List Int)} {δ : Dn} {μ : Store} {i : Nat} (h : δ[i]? = some (some (tupsD L))) : caG (c1 lenD) (consG (vG i) nilG) δ μ = .ok (.int L.length) μ := by
  refine (caG_ok (consG_ok (vG_at h) nilG_ok)).trans ?_
  rw [lenD_tup, List.length_map]
theorem e_threes {L : List (List Int)} (hl : L.length ≤ 64) (μ : Store) : ∃ k more, F__law_ll_threes [tupsD L] μ = .ok (.loc k) (μ ++ more) ∧ (μ ++ more)[k]? = some (.lst ((trip L).map tupsD)) := by
  have big3 : ∀ n, n ≤ L.length → n * (L.length * L.length) ≤ 64 * (64 * 64) := fun n hn => Nat.mul_le_mul (Nat.le_trans hn hl) (Nat.mul_le_mul hl hl)
  have in2 : ∀ n, n ≤ L.length → n * L.length ≤ 64 * 64 := fun n hn => Nat.mul_le_mul (Nat.le_trans hn hl) hl
  have key := forG_all (I := rng1G (consG (caG (c1 lenD) (consG (vG 0) nilG)) nilG)) (set := nmF 2)
    (body := forG (rng2G (consG (vG 2) (consG (caG (c1 lenD) (consG (vG 0) nilG)) nilG))) (nmF 3) (setG (nmF 1) (allocG (catG (.val (vG 1)) (.new (lcG [4] (rng2G (consG (vG 3) (consG (caG (c1 lenD) (consG (vG 0) nilG)) nilG))) (nmF 4) yesB (tupG (consG (opG ixD (vG 0) (vG 2)) (consG (opG ixD (vG 0) (vG 3)) (consG (opG ixD (vG 0) (vG 4)) nilG))))))))))
    (δ := [some (tupsD L), some (.loc μ.length), none, none, none]) (μ := μ ++ [.lst []])
    (fun i δ ν => ∃ (k : Nat) (more : Store) (x2 x3 x4 : Option D), δ = [some (tupsD L), some (.loc k), x2, x3, x4] ∧ ν = μ ++ more ∧ (μ ++ more)[k]? = some (.lst ((t1 L i).map tupsD)))
    (rng1_ok (consG_ok (len_lots rfl) nilG_ok) (by omega)) (fun _ _ _ _ => rfl) (by
      rintro i d δ ν hd ⟨k, more, x2, x3, x4, rfl, rfl, hk⟩
      obtain ⟨hi, rfl⟩ := people_get hd
      refine ⟨[some (tupsD L), some (.loc k), some (.int (i : Nat)), x3, x4], rfl, ?_⟩
      have key2 := forG_all (I := rng2G (consG (vG 2) (consG (caG (c1 lenD) (consG (vG 0) nilG)) nilG))) (set := nmF 3) (body := setG (nmF 1) (allocG (catG (.val (vG 1)) (.new (lcG [4] (rng2G (consG (vG 3) (consG (caG (c1 lenD) (consG (vG 0) nilG)) nilG))) (nmF 4) yesB (tupG (consG (opG ixD (vG 0) (vG 2)) (consG (opG ixD (vG 0) (vG 3)) (consG (opG ixD (vG 0) (vG 4)) nilG)))))))))
        (δ := [some (tupsD L), some (.loc k), some (.int (i : Nat)), x3, x4]) (μ := μ ++ more)
        (fun j δ ν => ∃ (k : Nat) (more : Store) (x3 x4 : Option D), δ = [some (tupsD L), some (.loc k), some (.int (i : Nat)), x3, x4] ∧ ν = μ ++ more ∧ (μ ++ more)[k]? = some (.lst ((t1 L i ++ t2 L i j).map tupsD)))
        (rng2_ok (consG_ok (vG_at rfl) (consG_ok (len_lots rfl) nilG_ok)) (by omega) (by omega)) (fun _ _ _ _ => rfl) (by
          rintro j d δ ν hd ⟨k, more, x3, x4, rfl, rfl, hk⟩
          obtain ⟨hj, rfl⟩ := range_get hd
          refine ⟨[some (tupsD L), some (.loc k), some (.int (i : Nat)), some (.int ((i + j : Nat) : Int)), x4], rfl, ?_⟩
          have hb : lcG [4] (rng2G (consG (vG 3) (consG (caG (c1 lenD) (consG (vG 0) nilG)) nilG))) (nmF 4) yesB (tupG (consG (opG ixD (vG 0) (vG 2)) (consG (opG ixD (vG 0) (vG 3)) (consG (opG ixD (vG 0) (vG 4)) nilG)))) [some (tupsD L), some (.loc k), some (.int (i : Nat)), some (.int ((i + j : Nat) : Int)), x4] (μ ++ more) = .ok ((t3 L (L.getD i []) (L.getD (i + j) []) (i + j)).map tupsD) (μ ++ more) := by
            rw [lcG_map (own := [4]) (fun q : Nat => D.int ((i + j + q : Nat) : Int)) (fun q => tupsD [L.getD i [], L.getD (i + j) [], L.getD (i + j + q) []]) (List.range (L.length - (i + j))) (chk := fun _ => true) (rng2_ok (consG_ok (vG_at rfl) (consG_ok (len_lots rfl) nilG_ok)) (by omega) (by omega)) rfl fun q hq => ⟨_, rfl, ?_⟩]
            · unfold t3
              rw [drop_range, List.map_map, List.map_map]; rfl
            · rw [List.mem_range] at hq
              refine tupG_ok (xs := [tupI (L.getD i []), tupI (L.getD (i + j) []), tupI (L.getD (i + j + q) [])]) (consG_ok ((opG_ok (vG_at rfl) (vG_at rfl)).trans (ix_lot hi _)) (consG_ok ((opG_ok (vG_at rfl) (vG_at rfl)).trans (ix_lot (by omega) _)) (consG_ok ((opG_ok (vG_at rfl) (vG_at rfl)).trans (ix_lot (by omega) _)) nilG_ok))) (by rw [sizeLine_eq]; show 3 ≤ _; omega)
          have hc := catG_vn (a := vG 1) (δ := [some (tupsD L), some (.loc k), some (.int (i : Nat)), some (.int ((i + j : Nat) : Int)), x4]) (vG_at rfl) hk hb (by
            have z1 := t1_len (L := L) i
            have z2 := t2_len (L := L) i j
            have z3 := t3_len (L := L) (L.getD i []) (L.getD (i + j) []) (i + j)
            have z4 := big3 i (by omega)
            have z5 := in2 j (by omega)
            simp only [List.length_map, List.length_append]
            rw [sizeLine_eq]
            omega)
          refine ⟨_, _, setG_nm (allocG_ok hc), (μ ++ more).length, more ++ [.lst ((t1 L i ++ t2 L i (j + 1)).map tupsD)], _, _, rfl, ?_, ?_⟩
          · rw [t2_succ, ← List.map_append, List.append_assoc, List.append_assoc]
          · rw [← List.append_assoc]; exact get_last _ _) ⟨k, more, x3, x4, rfl, rfl, by simpa [t2] using hk⟩
      obtain ⟨δ', ν', e1, k', more', x3', x4', rfl, rfl, hk'⟩ := key2
      refine ⟨_, _, e1, k', more', _, _, _, rfl, rfl, ?_⟩
      rw [List.length_map, List.length_range, ← t1_succ] at hk'
      exact hk') ⟨μ.length, [.lst []], none, none, none, rfl, rfl, get_last _ _⟩
  obtain ⟨δ', ν', e1, k, more, x2, x3, x4, rfl, rfl, hk⟩ := key
  rw [List.length_map, people_len] at hk
  exact ⟨k, more, fnG_rt (n := 5) ((seqG_nx (setG_nm (allocG_ok (lstG_ok nilG_ok (Nat.zero_le _))))).trans ((seqG_nx e1).trans (retG_ok (vG_at rfl)))), hk⟩
end K23

set_option autoImplicit false
/-! The lots that the law draws are lots as the program asks for. -/
namespace K23
open PySem L2 Sim
theorem lt_tri : ∀ a b : List Int, a < b ∨ a = b ∨ b < a
  | [], [] => .inr (.inl rfl)
  | [], _ :: _ => .inl (by simp)
  | _ :: _, [] => .inr (.inr (by simp))
  | x :: xs, y :: ys => by
    rcases lt_tri xs ys with h | h | h <;> rcases Int.lt_trichotomy x y with q | q | q <;> simp [List.cons_lt_cons_iff, h, q]
    all_goals omega
theorem lt_of_le_ne {a b : List Int} (h : a ≤ b) (hn : a ≠ b) : a < b := by
  rcases lt_tri a b with q | q | q
  · exact q
  · exact absurd q hn
  · exact absurd q (List.not_lt.mpr h)
theorem within_len {a b : List Int} (ha : a.Pairwise (· < ·)) (hb : b.Pairwise (· < ·)) (h : within a b = true) : a.length ≤ b.length ∧ (b.length ≤ a.length → a = b) := by
  have p : a.Perm (b.filter fun x => decide (x ∈ a)) := by
    refine (List.perm_ext_iff_of_nodup (lt_nodup ha) ((lt_nodup hb).filter _)).mpr fun x => ?_
    rw [List.mem_filter]
    simp only [decide_eq_true_eq]
    exact ⟨fun hx => ⟨within_iff.mp h x hx, hx⟩, fun z => z.2⟩
  have hl := List.length_filter_le (fun x => decide (x ∈ a)) b
  refine ⟨by rw [p.length_eq]; exact hl, fun hle => ?_⟩
  have e : (b.filter fun x => decide (x ∈ a)).length = b.length := by
    rw [p.length_eq] at hle
    omega
  have q := List.length_filter_eq_length_iff.mp e
  have pb : a.Perm b := (List.perm_ext_iff_of_nodup (lt_nodup ha) (lt_nodup hb)).mpr fun x => ⟨fun hx => within_iff.mp h x hx, fun hx => of_decide_eq_true (q x hx)⟩
  exact sorted_one pb (ha.imp fun z => Int.le_of_lt z) (hb.imp fun z => Int.le_of_lt z)
/-- those that are not within another one -/
def maxi (fs : List (List Int)) : List (List Int) := fs.filter fun one => (fs.filter fun o => !decide (o = one) && within one o).isEmpty
theorem mem_maxi {fs : List (List Int)} {a : List Int} : a ∈ maxi fs ↔ a ∈ fs ∧ ∀ o ∈ fs, o ≠ a → within a o = false := by
  unfold maxi
  rw [List.mem_filter, List.isEmpty_iff, List.filter_eq_nil_iff]
  refine and_congr_right fun _ => forall_congr' fun o => forall_congr' fun _ => ?_
  simp only [Bool.and_eq_true, Bool.not_eq_true', decide_eq_false_iff_not, not_and, Bool.not_eq_true]
theorem longest : ∀ {fs : List (List Int)}, fs ≠ [] → ∃ a ∈ fs, ∀ b ∈ fs, b.length ≤ a.length
  | [], h => absurd rfl h
  | a :: fs, _ => by
    by_cases h : fs = []
    · subst h
      exact ⟨a, List.mem_cons_self, fun b hb => by rw [List.mem_singleton.mp hb]; exact Nat.le_refl _⟩
    · obtain ⟨c, hc, h2⟩ := longest h
      by_cases hl : c.length ≤ a.length
      · refine ⟨a, List.mem_cons_self, fun b hb => ?_⟩
        rcases List.mem_cons.mp hb with rfl | hb
        · exact Nat.le_refl _
        · exact Nat.le_trans (h2 b hb) hl
      · refine ⟨c, List.mem_cons_of_mem _ hc, fun b hb => ?_⟩
        rcases List.mem_cons.mp hb with rfl | hb
        · omega
        · exact h2 b hb
theorem uniq_len {α : Type} [DecidableEq α] : ∀ xs : List α, (uniq xs).length ≤ xs.length
  | [] => Nat.le_refl _
  | x :: xs => by
    have ih := uniq_len xs
    unfold uniq
    split
    · rw [List.length_cons]; omega
    · rw [List.length_cons, List.length_cons]; omega
theorem maxi_nil {fs : List (List Int)} : (∀ k ∈ maxi fs, k ≠ []) ∨ (uniq (maxi fs)).length ≤ 1 := by
  by_cases h : [] ∈ maxi fs
  · right
    have h2 := (mem_maxi.mp h).2
    have all : ∀ k ∈ uniq (maxi fs), k = [] := fun k hk => by
      have hk := (mem_maxi.mp (mem_uniq.mp hk)).1
      refine Classical.byContradiction fun hn => ?_
      have z := h2 k hk hn
      have y : within [] k = true := rfl
      rw [y] at z
      cases z
    have nd := uniq_nodup (maxi fs)
    cases e : uniq (maxi fs) with
    | nil => exact Nat.zero_le _
    | cons a l =>
      rw [e] at all nd
      cases l with
      | nil => exact Nat.le_refl _
      | cons b l =>
        have ea := all a (by simp)
        have eb := all b (by simp)
        rw [ea, eb] at nd
        simp at nd
  · exact .inl fun k hk e => h (e ▸ hk)
theorem lots_ok {m : Nat} (h1 : 1 ≤ m) (h7 : m ≤ 7) {fs : List (List Int)} (hn : fs ≠ []) (hl : fs.length ≤ 60) (hg : ∀ f ∈ fs, grpB m f = true) : LotsOk m (setT (maxi fs)) := by
  have mem : ∀ a, a ∈ setT (maxi fs) ↔ a ∈ fs ∧ ∀ o ∈ fs, o ≠ a → within a o = false := fun a => mem_setT.trans mem_maxi
  have hlen : (setT (maxi fs)).length ≤ 60 := by
    have z : (setT (maxi fs)).length = (uniq (maxi fs)).length := (sortT_perm _).length_eq
    rw [z]
    exact Nat.le_trans (uniq_len _) (Nat.le_trans (List.length_filter_le _ _) hl)
  refine ⟨h1, h7, ?_, by omega, fun l h => hg l ((mem l).mp h).1, ?_, fun a ha b hb hne => ((mem a).mp ha).2 b ((mem b).mp hb).1 (Ne.symm hne)⟩
  · obtain ⟨a, ha, hmax⟩ := longest hn
    have z : a ∈ setT (maxi fs) := (mem a).mpr ⟨ha, fun o ho hne => by
      cases hw : within a o with
      | false => rfl
      | true =>
        obtain ⟨w1, w2⟩ := within_len ((grpB_iff h7).mp (hg a ha)).1 ((grpB_iff h7).mp (hg o ho)).1 hw
        exact absurd (w2 (hmax o ho)).symm hne⟩
    exact fun e => by rw [e] at z; cases z
  · refine ascB_of ?_
    refine ((setT_sorted (maxi fs)).and (setT_nodup (maxi fs))).imp fun {a b} h => decide_eq_true (lt_of_le_ne h.1 h.2)
theorem get_mid (rest gar : Store) (x : Ob) : (rest ++ x :: gar)[rest.length]? = some x := by simp
theorem set_mid (rest gar : Store) (x y : Ob) : (rest ++ x :: gar).set rest.length y = rest ++ y :: gar := by simp
theorem get_end2 (rest : Store) (x y : Ob) : (rest ++ [x, y])[rest.length + 1]? = some y := by simp
theorem cutTo {α : Type} (xs : List α) (j : Int) (h : 0 ≤ j) : cutD xs none (some j) = xs.take j.toNat := by
  have e : j = ((j.toNat : Nat) : Int) := by omega
  unfold cutD
  rw [e, HT.sIx_none, HT.sIx_nat, Nat.sub_zero, List.drop_zero, Int.toNat_natCast]
  by_cases q : j.toNat ≤ xs.length
  · rw [Nat.min_eq_left q]
  · rw [Nat.min_eq_right (by omega), List.take_of_length_le (Nat.le_refl _), List.take_of_length_le (by omega)]
theorem lstRg_people {δ : Dn} {μ : Store} {m i : Nat} (h : δ[i]? = some (some (.int (m : Nat)))) (hm : m ≤ 7) : lstRgG (rg1G (vG i)) δ μ = .ok ((people m).map D.int) μ := by
  have e : rg1G (vG i) δ μ = .ok (0, ((m : Nat) : Int)) μ := by
    unfold rg1G
    rw [bnd_ok (vG_at h)]; rfl
  unfold lstRgG
  rw [bnd_ok e]
  have ok : RgOk 0 ((m : Nat) : Int) := RgOk.of_le (Int.le_refl _) (by omega) (by decide) (by omega)
  simp only [if_pos ok]
  show Rs.ok (rgD 0 ((m : Nat) : Int)) μ = _
  rw [← rng_people]
  unfold rgD rngS
  rw [Int.sub_zero, Int.toNat_natCast]
/-- the lots are drawn -/
theorem e_lots {rest : Store} {B : Nat} {μ : Store} (h : Good rest (B + 60) μ) : ∃ (m : Nat) (L : List (List Int)) (rest' : Store) (μ' : Store), F__law_ll_lots [stD] μ = .ok (.tup [.int m, tupsD L]) μ' ∧ Good rest' B μ' ∧ LotsOk m L := by
  have hz := sizeLine_eq
  -- many
  obtain ⟨r1, μ1, d1, g1, r1a, r1b⟩ := e_draw (B := B + 59) h (k := 7) (by decide) (by decide)
  obtain ⟨m, em, m1, m7⟩ : ∃ m : Nat, 1 + r1 = (m : Int) ∧ 1 ≤ m ∧ m ≤ 7 := ⟨(1 + r1).toNat, by omega, by omega, by omega⟩
  have s1 : setG (tpF 2 (consF (nmF 1) (consF (nmF 2) nilF))) (tupG (consG (opG addD (cG (.int 1)) (callG F__law_draw (consG (vG 0) (consG (cG (.int 7)) nilG)))) (consG (allocG (lstG nilG)) nilG))) [some stD, none, none, none, none, none, none, none] μ =
      .nx [some stD, some (.int m), some (.loc (rest.length + 3)), none, none, none, none, none] (μ1 ++ [.lst []]) := by
    have q1 : opG addD (cG (.int 1)) (callG F__law_draw (consG (vG 0) (consG (cG (.int 7)) nilG))) [some stD, none, none, none, none, none, none, none] μ = .ok (.int m) μ1 := by
      refine (opG_ok (x := .int 1) (y := .int r1) (μ1 := μ) (μ2 := μ1) cG_ok ((callG_ok (consG_ok (vG_at rfl) (consG_ok cG_ok nilG_ok))).trans d1)).trans ?_
      rw [addD_int, em]
    have q2 := allocG_ok (a := lstG nilG) (δ := [some stD, none, none, none, none, none, none, none]) (μ := μ1) (lstG_ok nilG_ok (Nat.zero_le _))
    rw [good_length g1] at q2
    exact setG_ok (tupG_ok (consG_ok q1 (consG_ok q2 nilG_ok)) (by rw [hz]; show 2 ≤ _; omega)) rfl
  have g2 : Good (rest ++ [.lst []]) (B + 59) (μ1 ++ [.lst []]) := good_app g1
  -- way
  obtain ⟨way, μ3, d3, g3, wa, wb⟩ := e_draw (B := B + 58) g2 (k := 4) (by decide) (by decide)
  have s3 : setG (nmF 3) (callG F__law_draw (consG (vG 0) (consG (cG (.int 4)) nilG))) [some stD, some (.int m), some (.loc (rest.length + 3)), none, none, none, none, none] (μ1 ++ [.lst []]) = .nx [some stD, some (.int m), some (.loc (rest.length + 3)), some (.int way), none, none, none, none] μ3 :=
    setG_nm ((callG_ok (consG_ok (vG_at rfl) (consG_ok cG_ok nilG_ok))).trans d3)
  -- turns
  obtain ⟨r4, μ4, d4, g4, r4a, r4b⟩ := e_draw (B := B + 57) g3 (k := 5) (by decide) (by decide)
  obtain ⟨n, en, n1, n5⟩ : ∃ n : Nat, 1 + r4 = (n : Int) ∧ 1 ≤ n ∧ n ≤ 5 := ⟨(1 + r4).toNat, by omega, by omega, by omega⟩
  have i4 : rng1G (consG (opG addD (cG (.int 1)) (callG F__law_draw (consG (vG 0) (consG (cG (.int 5)) nilG)))) nilG) [some stD, some (.int m), some (.loc (rest.length + 3)), some (.int way), none, none, none, none] μ3 = .ok ⟨(people n).map D.int, fun _ => true⟩ μ4 := by
    refine rng1_ok (consG_ok ?_ nilG_ok) (by omega)
    refine (opG_ok (x := .int 1) (y := .int r4) (μ1 := μ3) (μ2 := μ4) cG_ok ((callG_ok (consG_ok (vG_at rfl) (consG_ok cG_ok nilG_ok))).trans d4)).trans ?_
    rw [addD_int, en]
  have key := forG_all (I := rng1G (consG (opG addD (cG (.int 1)) (callG F__law_draw (consG (vG 0) (consG (cG (.int 5)) nilG)))) nilG)) (set := nmF 4)
    (body := seqG (setG (nmF 5) (allocG (slLG (callG F__law_mixed (consG (vG 0) (consG (allocG (lstRgG (rg1G (vG 1)))) nilG))) noPartG (partG (callG F__law_draw (consG (vG 0) (consG (ifG (tB1 (opG gtD (vG 3) (cG (.int 0)))) (opG fdivD (opG addD (vG 1) (cG (.int 2))) (cG (.int 2))) (opG addD (vG 1) (cG (.int 1)))) nilG))))))) (dropG (appMG (vG 2) (cLG tupC (cVLG sortIC (vG 5))))))
    (fun i δ ν => ∃ (fs : List (List Int)) (gar : Store) (x4 x5 : Option D), δ = [some stD, some (.int m), some (.loc (rest.length + 3)), some (.int way), x4, x5, none, none] ∧ i ≤ n ∧ Good (rest ++ .lst (fs.map tupI) :: gar) (B + (n - i) * 10) ν ∧ fs.length = i ∧ ∀ f ∈ fs, grpB m f = true)
    i4 (fun _ _ _ _ => rfl) (by
      rintro i d δ ν hd ⟨fs, gar, x4, x5, rfl, hin, hg, hfl, hf⟩
      obtain ⟨hi, rfl⟩ := people_get hd
      refine ⟨[some stD, some (.int m), some (.loc (rest.length + 3)), some (.int way), some (.int (i : Nat)), x5, none, none], rfl, ?_⟩
      have hB : B + (n - i) * 10 = B + (n - (i + 1)) * 10 + 10 := by
        have e : n - i = (n - (i + 1)) + 1 := by omega
        rw [e, Nat.add_mul]; omega
      -- list(range(many))
      have a1 := allocG_ok (a := lstRgG (rg1G (vG 1))) (δ := [some stD, some (.int m), some (.loc (rest.length + 3)), some (.int way), some (.int (i : Nat)), x5, none, none]) (μ := ν) (lstRg_people (i := 1) rfl m7)
      have h1 := good_app (more := [.lst ((people m).map D.int)]) hg
      have n1' : (ν ++ [Ob.lst ((people m).map D.int)])[ν.length]? = some (.lst ((people m).map D.int)) := get_last _ _
      have pl : ((people m).map D.int).length = m := by rw [List.length_map, people_len]
      obtain ⟨ys, ν2, e2, h2, p2⟩ := e_mixed (B := B + (n - (i + 1)) * 10 + 1) (by rw [pl]; omega) (h1.less (by rw [pl, hB]; omega)) n1'
      -- how many
      obtain ⟨sz, es, sz0, sz1⟩ : ∃ sz : Int, ifG (tB1 (opG gtD (vG 3) (cG (.int 0)))) (opG fdivD (opG addD (vG 1) (cG (.int 2))) (cG (.int 2))) (opG addD (vG 1) (cG (.int 1))) [some stD, some (.int m), some (.loc (rest.length + 3)), some (.int way), some (.int (i : Nat)), x5, none, none] ν2 = .ok (.int sz) ν2 ∧ 0 < sz ∧ sz < 1073741824 := by
        have c : tB1 (opG gtD (vG 3) (cG (.int 0))) [some stD, some (.int m), some (.loc (rest.length + 3)), some (.int way), some (.int (i : Nat)), x5, none, none] ν2 = .ok (decide (0 < way)) ν2 := tB1_ok ((opG_ok (vG_at rfl) cG_ok).trans (gtD_int _ _ _))
        by_cases hw : 0 < way
        · rw [decide_eq_true hw] at c
          refine ⟨(m + 2) / 2, (ifG_t c).trans ((opG_ok (x := .int (m + 2)) (y := .int 2) (μ1 := ν2) ((opG_ok (vG_at rfl) cG_ok).trans (addD_int _ _ _)) cG_ok).trans (fdivD_int _ (by decide))), by omega, by omega⟩
        · rw [decide_eq_false hw] at c
          exact ⟨m + 1, (ifG_f c).trans ((opG_ok (vG_at rfl) cG_ok).trans (addD_int _ _ _)), by omega, by omega⟩
      obtain ⟨r, ν3, d5, h3, r0, r1'⟩ := e_draw h2 sz0 sz1
      have rl : ((rest ++ .lst (fs.map tupI) :: gar) ++ [Ob.lst ((people m).map D.int)]).length + 4 = ((rest ++ .lst (fs.map tupI) :: gar) ++ [Ob.lst ((people m).map D.int)]).length + 1 + 3 := rfl
      have n3 : ν3[((rest ++ .lst (fs.map tupI) :: gar) ++ [Ob.lst ((people m).map D.int)]).length + 4]? = some (.lst ys) := (good_get h3 _).trans (get_end2 _ _ _)
      have e3 : slLG (callG F__law_mixed (consG (vG 0) (consG (allocG (lstRgG (rg1G (vG 1)))) nilG))) noPartG (partG (callG F__law_draw (consG (vG 0) (consG (ifG (tB1 (opG gtD (vG 3) (cG (.int 0)))) (opG fdivD (opG addD (vG 1) (cG (.int 2))) (cG (.int 2))) (opG addD (vG 1) (cG (.int 1)))) nilG)))) [some stD, some (.int m), some (.loc (rest.length + 3)), some (.int way), some (.int (i : Nat)), x5, none, none] ν = .ok (ys.take r.toNat) ν3 := by
        unfold slLG
        rw [bnd_ok ((callG_ok (consG_ok (vG_at rfl) (consG_ok a1 nilG_ok))).trans e2), bnd_ok (show noPartG _ ν2 = .ok none ν2 from rfl)]
        have q : partG (callG F__law_draw (consG (vG 0) (consG (ifG (tB1 (opG gtD (vG 3) (cG (.int 0)))) (opG fdivD (opG addD (vG 1) (cG (.int 2))) (cG (.int 2))) (opG addD (vG 1) (cG (.int 1)))) nilG))) [some stD, some (.int m), some (.loc (rest.length + 3)), some (.int way), some (.int (i : Nat)), x5, none, none] ν2 = .ok (some r) ν3 := by
          unfold partG
          rw [bnd_ok ((callG_ok (consG_ok (vG_at rfl) (consG_ok es nilG_ok))).trans d5)]; rfl
        rw [bnd_ok q]
        refine (bnd_ok (a := ys) (μ' := ν3) ?_).trans ?_
        · unfold itemsL seqOf
          simp only [n3]
        · show Rs.ok (cutD ys none (some r)) ν3 = _
          rw [cutTo _ _ r0]
      have a3 := allocG_ok e3
      have h4 := good_app (more := [.lst (ys.take r.toNat)]) h3
      -- the group
      obtain ⟨zs, pz, rfl⟩ := L2.sim_perm_lift p2 (people m) rfl
      have n4 : (ν3 ++ [Ob.lst ((zs.map D.int).take r.toNat)])[ν3.length]? = some (.lst ((zs.take r.toNat).map D.int)) := by rw [get_last, List.map_take]
      have e4 : cLG tupC (cVLG sortIC (vG 5)) [some stD, some (.int m), some (.loc (rest.length + 3)), some (.int way), some (.int (i : Nat)), some (.loc ν3.length), none, none] (ν3 ++ [Ob.lst ((zs.map D.int).take r.toNat)]) = .ok (tupI (sortI (zs.take r.toNat))) (ν3 ++ [Ob.lst ((zs.map D.int).take r.toNat)]) := by
        refine (cLG_ok (g := tupC) (xs := (sortI (zs.take r.toNat)).map D.int) (μ1 := ν3 ++ [Ob.lst ((zs.map D.int).take r.toNat)]) ?_)
        unfold cVLG
        rw [bnd_ok (vG_at rfl)]
        refine (bnd_ok (a := (zs.take r.toNat).map D.int) (μ' := ν3 ++ [Ob.lst ((zs.map D.int).take r.toNat)]) ?_).trans ?_
        · unfold itemsL seqOf
          simp only [n4]
        · unfold sortIC
          simp only [unInts_map]
          rfl
      have hrest : ((rest ++ .lst (fs.map tupI) :: gar) ++ [Ob.lst ((people m).map D.int)] ++ [.lst [], .lst (zs.map D.int)]) ++ [Ob.lst ((zs.map D.int).take r.toNat)] = rest ++ .lst (fs.map tupI) :: (gar ++ [Ob.lst ((people m).map D.int), .lst [], .lst (zs.map D.int), Ob.lst ((zs.map D.int).take r.toNat)]) := by simp
      rw [hrest] at h4
      have n5' : (ν3 ++ [Ob.lst ((zs.map D.int).take r.toNat)])[rest.length + 3]? = some (.lst (fs.map tupI)) := (good_get h4 _).trans (get_mid _ _ _)
      have e5 := appMG_at (a := vG 2) (δ := [some stD, some (.int m), some (.loc (rest.length + 3)), some (.int way), some (.int (i : Nat)), some (.loc ν3.length), none, none]) (vG_at rfl) ⟨_, n5'⟩ e4 n5' (by rw [List.length_map, hfl, hz]; omega)
      have h5 := good_set h4 rest.length (.lst (fs.map tupI ++ [tupI (sortI (zs.take r.toNat))]))
      rw [set_mid] at h5
      refine ⟨_, _, (seqG_nx (setG_nm a3)).trans (dropG_ok e5), fs ++ [sortI (zs.take r.toNat)], gar ++ [Ob.lst ((people m).map D.int), .lst [], .lst (zs.map D.int), Ob.lst ((zs.map D.int).take r.toNat)], _, _, rfl, by omega, ?_, by rw [List.length_append, hfl]; rfl, fun f hf' => ?_⟩
      · rw [List.map_append]
        exact h5
      · rcases List.mem_append.mp hf' with q | q
        · exact hf f q
        · rw [List.mem_singleton.mp q]
          have nd : (zs.take r.toNat).Nodup := (List.take_sublist _ _).nodup (pz.nodup_iff.mpr (lt_nodup (people_asc m)))
          have nd2 : (sortI (zs.take r.toNat)).Nodup := (sortI_perm _).nodup_iff.mpr nd
          refine (grpB_iff m7).mpr ⟨lt_of_le_nodup _ (sortI_sorted _) nd2, fun x hx => ?_⟩
          exact mem_people.mp (pz.mem_iff.mp (List.mem_of_mem_take ((sortI_perm _).mem_iff.mp hx))))
    ⟨[], [], none, none, rfl, Nat.zero_le _, g4.less (by omega), rfl, fun _ z => nomatch z⟩
  obtain ⟨δ', ν, ef, fs, gar, x4, x5, rfl, -, hg, hfl, hf⟩ := key
  rw [List.length_map, people_len] at hfl hg
  rw [Nat.sub_self, Nat.zero_mul, Nat.add_zero] at hg
  have hne : fs ≠ [] := fun e => by rw [e] at hfl; simp at hfl; omega
  have nf : ν[rest.length + 3]? = some (.lst (fs.map tupI)) := (good_get hg _).trans (get_mid _ _ _)
  have hm : lcG [6] (srcG (vG 2)) (nmF 6) (tB1 (nilLG false (.new (lcG [7] (srcG (vG 2)) (nmF 7) (andB (tB1 (opG (eqD true) (vG 7) (vG 6))) (tB1 (callG F__law_ll_within (consG (vG 6) (consG (vG 7) nilG))))) (cG (.int 1)))))) (vG 6) [some stD, some (.int m), some (.loc (rest.length + 3)), some (.int way), x4, x5, none, none] ν = .ok ((maxi fs).map tupI) ν := by
    refine lcG_typed (own := [6]) tupI (fun one => (fs.filter fun o => !decide (o = one) && within one o).isEmpty) tupI fs (srcG_loc (vG_at rfl) nf) (decide_eq_true nf) fun one _ => ⟨_, rfl, ?_, fun _ => vG_at rfl⟩
    have q : lcG [7] (srcG (vG 2)) (nmF 7) (andB (tB1 (opG (eqD true) (vG 7) (vG 6))) (tB1 (callG F__law_ll_within (consG (vG 6) (consG (vG 7) nilG))))) (cG (.int 1)) [some stD, some (.int m), some (.loc (rest.length + 3)), some (.int way), x4, x5, some (tupI one), none] ν = .ok ((fs.filter fun o => !decide (o = one) && within one o).map fun _ => D.int 1) ν :=
      lcG_typed (own := [7]) tupI (fun o => !decide (o = one) && within one o) (fun _ => D.int 1) fs (srcG_loc (vG_at rfl) nf) (decide_eq_true nf) fun o _ => ⟨_, rfl, andB_ok (tB1_ok ((opG_ok (vG_at rfl) (vG_at rfl)).trans (eqD_tup _ _ _ _))) fun _ => tB1_ok ((callG_ok (consG_ok (vG_at rfl) (consG_ok (vG_at rfl) nilG_ok))).trans (e_ll_within _ _ _)), fun _ => rfl⟩
    have z := tB1_ok (nilLG_new (neg := false) q)
    rw [List.isEmpty_map] at z
    exact z
  have hl60 : fs.length ≤ 60 := by omega
  have hs : setTC ((maxi fs).map tupI) ν = .ok ((setT (maxi fs)).map tupI) ν := by
    unfold setTC
    have c : (maxi fs).length < 64 ∧ ((∀ k ∈ maxi fs, k ≠ []) ∨ (uniq (maxi fs)).length ≤ 1) := ⟨Nat.lt_of_le_of_lt (List.length_filter_le _ _) (by omega), maxi_nil⟩
    simp only [unTups_map, if_pos c]
    rfl
  have er : tupG (consG (vG 1) (consG (cLG tupC (cLLG setTC (lcG [6] (srcG (vG 2)) (nmF 6) (tB1 (nilLG false (.new (lcG [7] (srcG (vG 2)) (nmF 7) (andB (tB1 (opG (eqD true) (vG 7) (vG 6))) (tB1 (callG F__law_ll_within (consG (vG 6) (consG (vG 7) nilG))))) (cG (.int 1)))))) (vG 6)))) nilG)) [some stD, some (.int m), some (.loc (rest.length + 3)), some (.int way), x4, x5, none, none] ν = .ok (.tup [.int m, tupsD (setT (maxi fs))]) ν :=
    tupG_ok (consG_ok (vG_at rfl) (consG_ok (cLG_ok (g := tupC) ((cLLG_ok hm).trans hs)) nilG_ok)) (by rw [hz]; show 2 ≤ _; omega)
  have fin : fnG 8 G__law_ll_lots [stD] μ = .ok (.tup [.int m, tupsD (setT (maxi fs))]) ν := fnG_rt (n := 8) ((seqG_nx s1).trans ((seqG_nx s3).trans ((seqG_nx ef).trans (retG_ok er))))
  obtain ⟨gs, cs, lf, tn, t0, t1, rfl⟩ := hg
  have hlen : (mu gs cs lf tn rest).length = μ.length := (good_length h).symm
  obtain ⟨m', em'⟩ := trimW_some (F := fnG 8 G__law_ll_lots) (a := mu gs cs lf tn rest) (m := .lst (fs.map tupI) :: gar) fin hlen
  exact ⟨m, setT (maxi fs), rest ++ m', mu gs cs lf tn (rest ++ m'), em', ⟨gs, cs, lf, tn, t0, t1, rfl⟩, lots_ok m1 m7 hne hl60 hf⟩
end K23

set_option autoImplicit false
set_option maxHeartbeats 1000000
/-! What the defs give that k23 asks. -/
namespace K23
open PySem L2 Sim
theorem e_ll_may (L : List (List Int)) (a : List Int) (μ : Store) : F__law_ll_may [tupsD L, tupI a] μ = .ok (.bl (L.any fun l => within a l)) μ := by
  refine trimP_id (fnG_rt (retG_ok ?_))
  have h1 : lcG [2] (srcG (vG 0)) (nmF 2) (tB1 (callG F__law_ll_within (consG (vG 1) (consG (vG 2) nilG)))) (cG (.int 1)) [some (tupsD L), some (tupI a), none] μ = .ok ((L.filter fun l => within a l).map fun _ => D.int 1) μ :=
    lcG_typed (own := [2]) tupI (fun l => within a l) (fun _ => D.int 1) L (chk := fun _ => true) (srcG_tup (vG_at rfl)) rfl fun l _ => ⟨_, rfl, tB1_ok ((callG_ok (consG_ok (vG_at rfl) (consG_ok (vG_at rfl) nilG_ok))).trans (e_ll_within _ _ _)), fun _ => rfl⟩
  refine (nilLG_new (neg := true) h1).trans ?_
  rw [List.isEmpty_map, if_pos rfl]
  have z : (!(L.filter fun l => within a l).isEmpty) = L.any fun l => within a l := by
    rw [Bool.eq_iff_iff, List.any_eq_true, Bool.not_eq_true', ← Bool.not_eq_true, List.isEmpty_iff, List.filter_eq_nil_iff]
    simp
  rw [z]
theorem pyAll_tups : ∀ L : List (List Int), pyAll (L.map tupI) = some (L.map fun k => PyData.tuple (k.map .int))
  | [] => by simp [pyAll]
  | k :: L => by rw [List.map_cons, pyAll, py_tupI, pyAll_tups L]; rfl
theorem depth_tups : ∀ L : List (List Int), PyData.depthAll (L.map fun k => PyData.tuple (k.map .int)) ≤ 1
  | [] => by simp [PyData.depthAll]
  | k :: L => by
    rw [List.map_cons, PyData.depthAll, PyData.depth, PySem.W.depth_ints]
    have := depth_tups L
    omega
theorem e_pickL {B : Nat} {rest : Store} {μ : Store} {i : Nat} {ds : List D} (g : Good rest (B + 1) μ) (hi : rest[i]? = some (.lst ds)) (hn : ds ≠ []) (hl : ds.length ≤ 64) : ∃ c ∈ ds, ∃ μ', F__law_pick [stD, .loc (i + 3)] μ = .ok c μ' ∧ Good rest B μ' := by
  have hp : 0 < ds.length := List.length_pos_iff.mpr hn
  obtain ⟨r, μ', h1, h2, h3, h4⟩ := e_draw g (k := ds.length) (by omega) (by omega)
  have hr : r.toNat < ds.length := by omega
  have hm : μ[i + 3]? = some (.lst ds) := (good_get g _).trans hi
  have hm' : μ'[i + 3]? = some (.lst ds) := (good_get h2 _).trans hi
  refine ⟨ds[r.toNat], List.getElem_mem hr, μ', trimW_id (fnG_rt (n := 2) (retG_ok ?_)) (good_len g h2), h2⟩
  refine (opG_ok (x := .loc (i + 3)) (y := .int r) (μ1 := μ) (μ2 := μ') (vG_at rfl) ((callG_ok (consG_ok (vG_at rfl) (consG_ok ((caG_ok (consG_ok (vG_at rfl) nilG_ok)).trans (lenD_loc hm)) nilG_ok))).trans h1)).trans ?_
  unfold ixD
  have e : seqOf (.loc (i + 3)) μ' = some (false, ds) := by
    unfold seqOf
    simp only [hm']
  simp only [e]
  rw [atI_nat h3 (by omega), List.getElem?_eq_getElem hr]
theorem good_snoc {B : Nat} {rest : Store} {μ : Store} {x : Ob} (g : Good rest B μ) : Good (rest ++ [x]) B (μ ++ [x]) := good_app g
theorem seqG_ex {a b : SG} {δ : Dn} {μ μ1 : Store} {x : Exn} (h : a δ μ = .ex x μ1) : seqG a b δ μ = .ex x μ1 := by unfold seqG; rw [h]
theorem dropG_ex {a : EG} {δ : Dn} {μ μ1 : Store} {x : Exn} (h : a δ μ = .ex x μ1) : dropG a δ μ = .ex x μ1 := by unfold dropG thenS; rw [h]
theorem fnG_ex {n : Nat} {G : SG} {ds : List D} {μ μ1 : Store} {x : Exn} (h : G (ds.map some ++ List.replicate (n - ds.length) none) μ = .ex x μ1) : fnG n G ds μ = .ex x μ1 := by unfold fnG; rw [h]; rfl
theorem trimX_id {F : Fn} {ds : List D} {μ : Store} {x : Exn} (h : F ds μ = .ex x μ) : trimX F ds μ = .ex x μ := by
  unfold trimX
  rw [h]
  simp only
  split <;> rfl
theorem num_true (lo : Int) (μ : Store) : F_is_number [.bl true, .int lo] μ = .ok (.bl false) μ := by
  refine trimP_id ?_
  simp [fnG, outR, seqG, setG, retG, thenS, dropG, iteG, nmF, tpF, consF, nilF, vG, cG, opG, unG, caG, cLG, consG, nilG, tupG, andG, orG, notG, blG, ifG, chainG, tB1, andB, orB, notB, yesB, callG, bnd, wipeD, nextG, allocG, lstG, cLLG, cVLG, cQG, cVG, tupC, retNG, G_is_number, show isiC [.bl true, .ty "int"] μ = .ok (.bl true) μ from rfl, show isiC [.bl true, .ty "bool"] μ = .ok (.bl true) μ from rfl]
theorem cnt_true (lo hi : Int) (μ : Store) : F_is_count [.bl true, .int lo, .int hi] μ = .ok (.bl false) μ := by
  refine trimP_id ?_
  simp [fnG, outR, seqG, setG, retG, thenS, dropG, iteG, nmF, tpF, consF, nilF, vG, cG, opG, unG, caG, cLG, consG, nilG, tupG, andG, orG, notG, blG, ifG, chainG, tB1, andB, orB, notB, yesB, callG, bnd, wipeD, nextG, allocG, lstG, cLLG, cVLG, cQG, cVG, tupC, retNG, G_is_count, num_true]
theorem isx_at {i : Nat} {a : Addr} {b : Bool} {δ : Dn} {μ : Store} (h : δ[i]? = some (some (.adr a))) : isxG i a b δ μ = .ok (.bl b) μ := by
  unfold isxG
  rw [h]
  simp
def hitsOf (c : Str) : List (Str × Bool) := [("many", decide (c = "BadMany")), ("lots", decide (c = "BadLots")), ("group", decide (c = "BadGroup")), ("family", decide (c = "BadFamily")), ("weights", decide (c = "BadWeights"))]
def oneOf (ws : List Str) : Str := match ws with
  | [w] => w
  | _ => "other"
theorem word_one (c : Str) : wordOf c = oneOf (((hitsOf c).filter (·.2)).map (·.1)) := by
  by_cases h1 : c = "BadMany"
  · subst h1; decide +kernel
  by_cases h2 : c = "BadLots"
  · subst h2; decide +kernel
  by_cases h3 : c = "BadGroup"
  · subst h3; decide +kernel
  by_cases h4 : c = "BadFamily"
  · subst h4; decide +kernel
  by_cases h5 : c = "BadWeights"
  · subst h5; decide +kernel
  simp [wordOf, hitsOf, oneOf, h1, h2, h3, h4, h5]
theorem kind_true (a : Addr) (c : Str) : ∃ μ', fnG 5 (G__law_ll_kind a c) [.adr a] [] = .ok (.str (wordOf c)) μ' := by
  have hz := sizeLine_eq
  have two : ∀ (w : Str) (b : Bool) (δ : Dn) (μ : Store), δ[0]? = some (some (.adr a)) → tupG (consG (cG (.str w)) (consG (isxG 0 a b) nilG)) δ μ = .ok (.tup [.str w, .bl b]) μ := fun w b δ μ h => tupG_ok (consG_ok cG_ok (consG_ok (isx_at h) nilG_ok)) (by rw [hz]; show 2 ≤ _; omega)
  have s1 : (setG (nmF 1) (allocG (lstG (consG (tupG (consG (cG (.str "many")) (consG (isxG 0 a (decide (c = "BadMany"))) nilG))) (consG (tupG (consG (cG (.str "lots")) (consG (isxG 0 a (decide (c = "BadLots"))) nilG))) (consG (tupG (consG (cG (.str "group")) (consG (isxG 0 a (decide (c = "BadGroup"))) nilG))) (consG (tupG (consG (cG (.str "family")) (consG (isxG 0 a (decide (c = "BadFamily"))) nilG))) (consG (tupG (consG (cG (.str "weights")) (consG (isxG 0 a (decide (c = "BadWeights"))) nilG))) nilG)))))))) [some (.adr a), none, none, none, none] [] = .nx [some (.adr a), some (.loc 0), none, none, none] [.lst ((hitsOf c).map fun p => D.tup [.str p.1, .bl p.2])] :=
    setG_nm (allocG_ok (lstG_ok (consG_ok (two _ _ _ _ rfl) (consG_ok (two _ _ _ _ rfl) (consG_ok (two _ _ _ _ rfl) (consG_ok (two _ _ _ _ rfl) (consG_ok (two _ _ _ _ rfl) nilG_ok))))) (by rw [hz]; show 5 ≤ _; omega)))
  have h2 : (lcG [3, 4] (srcG (vG 1)) (tpF 2 (consF (nmF 3) (consF (nmF 4) nilF))) (tB1 (vG 4)) (vG 3)) [some (.adr a), some (.loc 0), none, none, none] [.lst ((hitsOf c).map fun p => D.tup [.str p.1, .bl p.2])] = .ok (((hitsOf c).filter (·.2)).map fun p => D.str p.1) [.lst ((hitsOf c).map fun p => D.tup [.str p.1, .bl p.2])] :=
    lcG_typed (own := [3, 4]) (fun p : Str × Bool => D.tup [.str p.1, .bl p.2]) (·.2) (fun p => D.str p.1) (hitsOf c) (srcG_loc (vG_at rfl) rfl) (decide_eq_true rfl) fun p _ => ⟨_, rfl, tB1_ok (vG_at rfl), fun _ => vG_at rfl⟩
  have s2 := setG_nm (i := 2) (allocG_ok h2)
  refine ⟨[.lst ((hitsOf c).map fun p => D.tup [.str p.1, .bl p.2])] ++ [.lst (((hitsOf c).filter (·.2)).map fun p => D.str p.1)], fnG_rt (n := 5) ((seqG_nx s1).trans ((seqG_nx s2).trans (retG_ok (d := .str (wordOf c)) ?_)))⟩
  rw [word_one]
  generalize hw : (hitsOf c).filter (·.2) = ws
  have n1 : ([.lst ((hitsOf c).map fun p => D.tup [.str p.1, .bl p.2])] ++ [Ob.lst (ws.map fun p => D.str p.1)])[1]? = some (.lst (ws.map fun p => D.str p.1)) := rfl
  have c1 : tB1 (opG (eqD false) (caG (c1 lenD) (consG (vG 2) nilG)) (cG (.int 1))) [some (.adr a), some (.loc 0), some (.loc 1), none, none] ([.lst ((hitsOf c).map fun p => D.tup [.str p.1, .bl p.2])] ++ [Ob.lst (ws.map fun p => D.str p.1)]) = .ok (decide (((ws.map fun p => D.str p.1).length : Int) = 1)) ([.lst ((hitsOf c).map fun p => D.tup [.str p.1, .bl p.2])] ++ [Ob.lst (ws.map fun p => D.str p.1)]) :=
    tB1_ok ((opG_ok ((caG_ok (consG_ok (vG_at rfl) nilG_ok)).trans (lenD_loc n1)) cG_ok).trans (eqD_int _ _ _ _))
  match ws, c1 with
  | [], c1 => exact (ifG_f c1).trans rfl
  | [w], c1 => exact (ifG_t c1).trans rfl
  | w :: v :: r, c1 =>
    have z : decide (((((w :: v :: r).map fun p => D.str p.1).length : Nat) : Int) = 1) = false := decide_eq_false (by simp only [List.length_map, List.length_cons]; omega)
    rw [z] at c1
    exact (ifG_f c1).trans rfl
theorem noex_at {F : Fn} {ds : List D} {d : D} {μ μ' : Store} (h : F ds μ = .ok d μ') : noex F ds μ = .ok d μ' := noex_ok h
theorem trimX_nx {F : Fn} {ds : List D} {d : D} {μ μ' : Store} (h : F ds μ = .ok d μ') : trimX F ds μ = .ok d μ' := by
  unfold trimX
  rw [h]
def badM : Exn := ⟨"BadMany", []⟩
theorem num_none (lo : Int) (μ : Store) : F_is_number [.non, .int lo] μ = .ok (.bl false) μ := by
  refine trimP_id ?_
  simp [fnG, outR, seqG, setG, retG, thenS, dropG, iteG, nmF, tpF, consF, nilF, vG, cG, opG, unG, caG, cLG, consG, nilG, tupG, andG, orG, notG, blG, ifG, chainG, tB1, andB, orB, notB, yesB, callG, bnd, wipeD, nextG, allocG, lstG, cLLG, cVLG, cQG, cVG, tupC, retNG, G_is_number, show isiC [.non, .ty "int"] μ = .ok (.bl false) μ from rfl]
theorem cnt_none (lo hi : Int) (μ : Store) : F_is_count [.non, .int lo, .int hi] μ = .ok (.bl false) μ := by
  refine trimP_id ?_
  simp [fnG, outR, seqG, setG, retG, thenS, dropG, iteG, nmF, tpF, consF, nilF, vG, cG, opG, unG, caG, cLG, consG, nilG, tupG, andG, orG, notG, blG, ifG, chainG, tB1, andB, orB, notB, yesB, callG, bnd, wipeD, nextG, allocG, lstG, cLLG, cVLG, cQG, cVG, tupC, retNG, G_is_count, num_none]
theorem bad_cnt {d : D} (hd : d ∈ [D.non, .int 0, .int 8, .bl true]) (μ : Store) : F_is_count [d, .int 1, .int 7] μ = .ok (.bl false) μ := by
  simp only [List.mem_cons, List.not_mem_nil, or_false] at hd
  rcases hd with rfl | rfl | rfl | rfl
  · exact cnt_none _ _ _
  · rw [e_is_count]; rfl
  · rw [e_is_count]; rfl
  · exact cnt_true _ _ _
theorem kind_ok {a : EG} {δ : Dn} {μ : Store} {c w : Str} (h : a δ μ = .ex ⟨c, []⟩ μ) (hw : wordOf c = w) : kindG wordOf a δ μ = .ok (.str w) μ := by
  unfold kindG
  rw [h]
  show Rs.ok (D.str (wordOf c)) μ = _
  rw [hw]
theorem word_many : wordOf "BadMany" = "many" := by decide +kernel
theorem eq_str {s : Str} (hs : PyData.strOk s = true) (μ : Store) : eqD true (.str s) (.str s) μ = .ok (.bl false) μ := by
  have hs : shp (.str s) = true := by
    unfold shp SeqAt.shaped
    simp [PyData.canLay0, PyData.depth, hs]
  have he : PyData.eqv (.str s) (.str s) = true := by
    rw [PyData.eqv]
    simp
  unfold eqD
  rw [D.py]
  simp only [hs, Bool.and_self, if_true, he]
  rfl
theorem int_shown {x : Int} (h : 0 ≤ x ∧ x < 7) : PyData.showable (.int x) = true ∧ PyData.leavesShort 8 (.int x) = true := by
  have : x = 0 ∨ x = 1 ∨ x = 2 ∨ x = 3 ∨ x = 4 ∨ x = 5 ∨ x = 6 := by omega
  rcases this with rfl | rfl | rfl | rfl | rfl | rfl | rfl <;> exact ⟨by decide +kernel, by decide +kernel⟩
theorem ints_shown : ∀ {k : List Int}, (∀ x ∈ k, 0 ≤ x ∧ x < 7) → PyData.showableAll (k.map .int) = true ∧ PyData.leavesShortAll 8 (k.map .int) = true ∧ PyData.bulkAll (k.map .int) = k.length ∧ PyData.hasDictAll (k.map .int) = false
  | [], _ => ⟨rfl, rfl, rfl, rfl⟩
  | x :: k, h => by
    obtain ⟨a1, a2⟩ := int_shown (h x List.mem_cons_self)
    obtain ⟨b1, b2, b3, b4⟩ := ints_shown fun y hy => h y (List.mem_cons_of_mem _ hy)
    refine ⟨?_, ?_, ?_, ?_⟩
    · rw [List.map_cons, PyData.showableAll, a1, b1]; rfl
    · rw [List.map_cons, PyData.leavesShortAll, a2, b2]; rfl
    · rw [List.map_cons, PyData.bulkAll, b3, PyData.bulk, List.length_cons]; omega
    · rw [List.map_cons, PyData.hasDictAll, b4, PyData.hasDict]; rfl
theorem tups_shown : ∀ {L : List (List Int)}, (∀ k ∈ L, k.length ≤ 7 ∧ ∀ x ∈ k, 0 ≤ x ∧ x < 7) → PyData.showableAll (L.map fun k => PyData.tuple (k.map .int)) = true ∧ PyData.leavesShortAll 8 (L.map fun k => PyData.tuple (k.map .int)) = true ∧ PyData.bulkAll (L.map fun k => PyData.tuple (k.map .int)) ≤ 8 * L.length ∧ PyData.hasDictAll (L.map fun k => PyData.tuple (k.map .int)) = false
  | [], _ => ⟨rfl, rfl, Nat.zero_le _, rfl⟩
  | k :: L, h => by
    obtain ⟨h1, h2⟩ := h k List.mem_cons_self
    obtain ⟨a1, a2, a3, a4⟩ := ints_shown h2
    obtain ⟨b1, b2, b3, b4⟩ := tups_shown fun y hy => h y (List.mem_cons_of_mem _ hy)
    refine ⟨?_, ?_, ?_, ?_⟩
    · rw [List.map_cons, PyData.showableAll, PyData.showable, a1, b1]; rfl
    · rw [List.map_cons, PyData.leavesShortAll, PyData.leavesShort, a2, b2]; rfl
    · rw [List.map_cons, PyData.bulkAll, PyData.bulk, a3, List.length_cons]; omega
    · rw [List.map_cons, PyData.hasDictAll, PyData.hasDict, a4, b4]; rfl
theorem okRepr_tups {L : List (List Int)} (hl : L.length ≤ 128) (h : ∀ k ∈ L, k.length ≤ 7 ∧ ∀ x ∈ k, 0 ≤ x ∧ x < 7) : okRepr (tupsD L) = true := by
  obtain ⟨a1, a2, a3, a4⟩ := tups_shown h
  have hd := depth_tups L
  have hs := PyData.shown_le_bulk 8 (by decide) (.tuple (L.map fun k => PyData.tuple (k.map .int))) (by rw [PyData.leavesShort]; exact a2)
  rw [PyData.bulk] at hs
  show (match (tupsD L).py with | some p => okShown p | none => false) = true
  have e : (tupsD L).py = some (.tuple (L.map fun k => PyData.tuple (k.map .int))) := by rw [tupsD, D.py, pyAll_tups]
  rw [e]
  show okShown _ = true
  unfold okShown
  have s1 : (PyData.tuple (L.map fun k => PyData.tuple (k.map .int))).showable = true := by rw [PyData.showable]; exact a1
  have s2 : (PyData.tuple (L.map fun k => PyData.tuple (k.map .int))).hasDict = false := by rw [PyData.hasDict]; exact a4
  have s3 : (PyData.tuple (L.map fun k => PyData.tuple (k.map .int))).depth ≤ 40 := by rw [PyData.depth]; omega
  have s4 : (PyData.tuple (L.map fun k => PyData.tuple (k.map .int))).shown.length ≤ sizeLine := by rw [sizeLine_eq]; omega
  rw [s1, s2, decide_eq_true s3, decide_eq_true s4]; rfl
section
variable {m : Nat} {L Fm : List (List Int)}
theorem three_set (h : LotsOk m L) {t : List (List Int)} (ht : t ∈ trip L) : (setI t.flatten).Pairwise (· < ·) ∧ ∀ x ∈ setI t.flatten, 0 ≤ x ∧ x < m :=
  ⟨setI_sorted _, fun x hx => (flat3 h ht).2 x (mem_setI.mp hx)⟩
theorem full_iff (h : LotsOk m L) {t : List (List Int)} (ht : t ∈ trip L) : within (people m) (setI t.flatten) = fullB m t := by
  obtain ⟨s1, s2⟩ := three_set h ht
  have sub : within (setI t.flatten) (people m) = true := within_iff.mpr fun x hx => mem_people.mpr (s2 x hx)
  obtain ⟨w1, w2⟩ := within_len s1 (people_asc m) sub
  rw [people_len] at w1 w2
  unfold fullB
  rw [Bool.eq_iff_iff, decide_eq_true_eq]
  constructor
  · intro q
    obtain ⟨v1, _⟩ := within_len (people_asc m) s1 q
    rw [people_len] at v1
    omega
  · intro q
    rw [w2 (by omega)]
    exact within_iff.mpr fun x hx => hx
theorem find_head {α : Type} {p : α → Bool} : ∀ l : List α, l.find? p = (l.filter p).head?
  | [] => rfl
  | a :: l => by
    rw [List.find?_cons, List.filter_cons]
    cases p a with
    | true => rfl
    | false => exact find_head l
theorem add_tup {xs ys : List D} (hl : xs.length + ys.length ≤ sizeLine) (μ : Store) : addD (.tup xs) (.tup ys) μ = .ok (.tup (xs ++ ys)) μ := by
  unfold addD fit
  simp only [if_pos hl]
  rfl
theorem e_ll_first (h : LotsOk m L) (μ : Store) : F__law_ll_first [.int m, tupsD L] μ = .ok (((trip L).find? (fullB m)).elim .non tupsD) μ := by
  obtain ⟨k0, more, d6, hk0⟩ := e_threes h.len μ
  have hz := sizeLine_eq
  refine trimP_more (m := more ++ [.lst (((trip L).filter (fullB m)).map tupsD)]) ?_ (by
    cases (trip L).find? (fullB m) with
    | none => simp [D.bd]
    | some t => show D.bd _ (tupsD t) = true; rw [D.bd]; exact bds_tups _ _)
  rw [← List.append_assoc]
  have i6 : srcG (callG F__law_ll_threes (consG (vG 1) nilG)) [some (.int m), some (tupsD L), none, none] μ = .ok ⟨(trip L).map tupsD, fun ν => decide (ν[k0]? = some (.lst ((trip L).map tupsD)))⟩ (μ ++ more) := srcG_loc ((callG_ok (consG_ok (vG_at rfl) nilG_ok)).trans d6) hk0
  have l1 : lcG [3] (srcG (callG F__law_ll_threes (consG (vG 1) nilG))) (nmF 3) (tB1 (opG (eqD false) (cQ1G lenSetC (opG addD (opG addD (opG ixD (vG 3) (cG (.int 0))) (opG ixD (vG 3) (cG (.int 1)))) (opG ixD (vG 3) (cG (.int 2))))) (vG 0))) (vG 3) [some (.int m), some (tupsD L), none, none] μ = .ok (((trip L).filter (fullB m)).map tupsD) (μ ++ more) := by
    refine lcG_typed (own := [3]) tupsD (fullB m) tupsD (trip L) i6 (decide_eq_true hk0) fun t ht => ⟨[some (.int m), some (tupsD L), none, some (tupsD t)], rfl, ?_, fun _ => vG_at rfl⟩
    have f3 := (flat3 h ht).1
    obtain ⟨a, _, b, _, c, _, rfl⟩ := mem_trip ht
    have fe : [a, b, c].flatten = (a ++ b) ++ c := by simp
    rw [fe] at f3
    simp only [List.length_append] at f3
    have q : ∀ i : Nat, ∀ hi : i < 3, opG ixD (vG 3) (cG (.int (i : Nat))) [some (.int m), some (tupsD L), none, some (tupsD [a, b, c])] (μ ++ more) = .ok (tupI ([a, b, c].getD i [])) (μ ++ more) := fun i hi => (opG_ok (vG_at rfl) cG_ok).trans (ix_lot (L := [a, b, c]) (i := i) hi _)
    have s : opG addD (opG addD (opG ixD (vG 3) (cG (.int 0))) (opG ixD (vG 3) (cG (.int 1)))) (opG ixD (vG 3) (cG (.int 2))) [some (.int m), some (tupsD L), none, some (tupsD [a, b, c])] (μ ++ more) = .ok (tupI ((a ++ b) ++ c)) (μ ++ more) := by
      refine (opG_ok ((opG_ok (q 0 (by decide)) (q 1 (by decide))).trans (add_tup (by rw [List.length_map, List.length_map]; show a.length + b.length ≤ _; omega) _)) (q 2 (by decide))).trans ((add_tup (by rw [List.length_append, List.length_map, List.length_map, List.length_map]; show a.length + b.length + c.length ≤ _; omega) _).trans ?_)
      unfold tupI
      rw [List.map_append, List.map_append]; rfl
    have z : cQ1G lenSetC (opG addD (opG addD (opG ixD (vG 3) (cG (.int 0))) (opG ixD (vG 3) (cG (.int 1)))) (opG ixD (vG 3) (cG (.int 2)))) [some (.int m), some (tupsD L), none, some (tupsD [a, b, c])] (μ ++ more) = .ok (.int (setI [a, b, c].flatten).length) (μ ++ more) := by
      unfold cQ1G
      rw [bnd_ok s, fe]
      refine (bnd_ok (a := ((a ++ b) ++ c).map D.int) (μ' := μ ++ more) rfl).trans ?_
      unfold lenSetC
      simp only [unInts_map]
      rw [if_pos (by simp only [List.length_append]; omega)]
      rfl
    refine tB1_ok ((opG_ok z (vG_at rfl)).trans ?_)
    rw [eqD_int]
    have q : decide (((setI [a, b, c].flatten).length : Int) = m) = fullB m [a, b, c] := by
      unfold fullB
      exact decide_eq_decide.mpr (by omega)
    rw [q]; rfl
  refine fnG_rt (n := 4) ((seqG_nx (setG_nm (allocG_ok l1))).trans (retG_ok ?_))
  have hn := get_last (μ ++ more) (.lst (((trip L).filter (fullB m)).map tupsD))
  have c1 := tB1_ok (nilLG_val (neg := true) (a := vG 2) (δ := [some (.int m), some (tupsD L), some (.loc (μ ++ more).length), none]) (vG_at rfl) hn)
  rw [find_head]
  cases hf : (trip L).filter (fullB m) with
  | nil =>
    rw [hf] at c1 hn
    exact (ifG_f c1).trans rfl
  | cons t ts =>
    rw [hf] at c1 hn
    refine (ifG_t c1).trans ((opG_ok (x := .loc (μ ++ more).length) (y := .int 0) (vG_at rfl) cG_ok).trans ?_)
    unfold ixD
    have e : seqOf (.loc (μ ++ more).length) ((μ ++ more) ++ [.lst ((t :: ts).map tupsD)]) = some (false, (t :: ts).map tupsD) := by
      unfold seqOf
      simp only [hn]
    simp only [e]
    rw [atI_nat (by decide) (by rw [List.length_map, List.length_cons]; omega)]
    rfl
theorem others_grp (hm : m ≤ 7) (g : List Int) : grpB m (others m g) = true := sub_grp hm (people_grp hm) List.filter_sublist
theorem own_ne (h : LotsOk m L) : (∀ k ∈ L.map (others m), k ≠ []) ∨ (L.map (others m)).length ≤ 1 := by
  by_cases hz : ∃ l ∈ L, others m l = []
  · obtain ⟨l, hl, e⟩ := hz
    have all : ∀ l' ∈ L, l' = l := fun l' h' => by
      refine Classical.byContradiction fun ne => ?_
      have z := h.anti l' h' l hl ne
      have w : within l' l = true := within_iff.mpr fun x hx => by
        have r := ((grpB_iff h.hi).mp (h.grp l' h')).2 x hx
        refine Classical.byContradiction fun nx => ?_
        have : x ∈ others m l := mem_others.mpr ⟨r, nx⟩
        rw [e] at this
        cases this
      rw [z] at w; cases w
    right
    rw [List.length_map]
    match L, h.asc, all with
    | [], _, _ => exact Nat.zero_le _
    | [_], _, _ => exact Nat.le_refl _
    | a :: b :: r, asc, all =>
      have ea := all a List.mem_cons_self
      have eb := all b (List.mem_cons_of_mem _ List.mem_cons_self)
      subst ea
      subst eb
      have z : b < b := by
        unfold ascB at asc
        exact of_decide_eq_true (List.all_eq_true.mp asc (b, b) List.mem_cons_self)
      exact absurd z (List.lt_irrefl b)
  · refine .inl fun k hk => ?_
    obtain ⟨l, hl, rfl⟩ := List.mem_map.mp hk
    exact fun e => hz ⟨l, hl, e⟩
def ownL (m : Nat) (L : List (List Int)) : List (List Int) := sortT (L.map (others m))
theorem mem_own {g : List Int} : g ∈ ownL m L ↔ ∃ l ∈ L, others m l = g := by
  unfold ownL
  rw [(sortT_perm _).mem_iff, List.mem_map]
theorem own_len : (ownL m L).length = L.length := by
  unfold ownL
  rw [(sortT_perm _).length_eq, List.length_map]
theorem e_enough_groups (h : LotsOk m L) (μ : Store) : F_enough_groups [.int m, tupsD L] μ = .ok (tupsD (ownL m L)) μ := by
  refine trimP_id (fnG_rt (n := 3) ((seqG_nx (dropG_ok (show callG F_need_lots (consG (vG 0) (consG (vG 1) nilG)) [some (.int m), some (tupsD L), none] μ = .ok .non μ from e_need_lots h μ))).trans (retG_ok ?_)))
  have h1 : lcG [2] (srcG (vG 1)) (nmF 2) yesB (callG F_others_of (consG (vG 0) (consG (vG 2) nilG))) [some (.int m), some (tupsD L), none] μ = .ok ((L.map (others m)).map tupI) μ := by
    rw [lcG_map (own := [2]) tupI (fun l => tupI (others m l)) L (chk := fun _ => true) (srcG_tup (vG_at rfl)) rfl fun x _ => ⟨_, rfl, (callG_ok (consG_ok (vG_at rfl) (consG_ok (vG_at rfl) nilG_ok))).trans (e_others_of h.hi _ _)⟩]
    rw [List.map_map]; rfl
  refine cLG_ok (g := tupC) (xs := (ownL m L).map tupI) (μ1 := μ) ((cLLG_ok h1).trans ?_)
  unfold sortTC
  simp only [unTups_map, if_pos (own_ne h)]
  rfl

def enoughB (m : Nat) (L : List (List Int)) (g : List Int) : Bool := L.any fun l => within (others m g) l
def bindsB (m : Nat) (L : List (List Int)) (g : List Int) : Bool := (trip L).any fun t => within (others m g) (setI t.flatten)
theorem e_may_lie (h : LotsOk m L) {g : List Int} (hg : grpB m g = true) (μ : Store) : F_may_lie [.int m, tupsD L, tupI g] μ = .ok (.bl (L.any fun l => within g l)) μ := by
  refine trimP_id ?_
  simp [fnG, outR, seqG, setG, retG, thenS, dropG, iteG, nmF, tpF, consF, nilF, vG, cG, opG, unG, caG, cLG, consG, nilG, tupG, andG, orG, notG, blG, ifG, chainG, tB1, andB, orB, notB, yesB, callG, bnd, wipeD, nextG, allocG, lstG, cLLG, cVLG, cQG, cVG, tupC, retNG, G_may_lie, e_need_lots h, e_need_group hg, e_may_all_lie]
theorem e_enough (h : LotsOk m L) {g : List Int} (hg : grpB m g = true) (μ : Store) : F_is_enough [.int m, tupsD L, tupI g] μ = .ok (.bl (enoughB m L g)) μ := e_is_enough h hg μ
theorem e_binds (h : LotsOk m L) {g : List Int} (hg : grpB m g = true) (μ : Store) : F_is_binding [.int m, tupsD L, tupI g] μ = .ok (.bl (bindsB m L g)) μ := e_is_binding h hg μ
theorem within_congr {a b c : List Int} (h : ∀ x, x ∈ b ↔ x ∈ c) : within a b = within a c := by
  rw [Bool.eq_iff_iff, within_iff, within_iff]
  exact ⟨fun z x hx => (h x).mp (z x hx), fun z x hx => (h x).mpr (z x hx)⟩
theorem e_ll_binds (h : LotsOk m L) (g : List Int) (μ : Store) : F__law_ll_binds [.int m, tupsD L, tupI g] μ = .ok (.bl (bindsB m L g)) μ := by
  obtain ⟨k0, more, d6, hk0⟩ := e_threes h.len μ
  have hz := sizeLine_eq
  refine trimP_more (m := more) ?_ (by simp [D.bd])
  have s0 : (setG (nmF 3) (callG F__law_ll_rest (consG (vG 0) (consG (vG 2) nilG)))) [some (.int m), some (tupsD L), some (tupI g), none, none] μ = .nx [some (.int m), some (tupsD L), some (tupI g), some (tupI (others m g)), none] μ := setG_nm ((callG_ok (consG_ok (vG_at rfl) (consG_ok (vG_at rfl) nilG_ok))).trans (e_rest h.hi _ _))
  have i6 : (srcG (callG F__law_ll_threes (consG (vG 1) nilG))) [some (.int m), some (tupsD L), some (tupI g), some (tupI (others m g)), none] μ = .ok ⟨(trip L).map tupsD, fun ν => decide (ν[k0]? = some (.lst ((trip L).map tupsD)))⟩ (μ ++ more) := srcG_loc ((callG_ok (consG_ok (vG_at rfl) nilG_ok)).trans d6) hk0
  have l1 : (lcG [4] (srcG (callG F__law_ll_threes (consG (vG 1) nilG))) (nmF 4) (tB1 (callG F__law_ll_within (consG (vG 3) (consG (opG addD (opG addD (opG ixD (vG 4) (cG (.int 0))) (opG ixD (vG 4) (cG (.int 1)))) (opG ixD (vG 4) (cG (.int 2)))) nilG)))) (cG (.int 1))) [some (.int m), some (tupsD L), some (tupI g), some (tupI (others m g)), none] μ = .ok (((trip L).filter fun t => within (others m g) (setI t.flatten)).map fun _ => D.int 1) (μ ++ more) := by
    refine lcG_typed (own := [4]) tupsD (fun t => within (others m g) (setI t.flatten)) (fun _ => D.int 1) (trip L) i6 (decide_eq_true hk0) fun t ht => ⟨[some (.int m), some (tupsD L), some (tupI g), some (tupI (others m g)), some (tupsD t)], rfl, ?_, fun _ => rfl⟩
    have f3 := (flat3 h ht).1
    obtain ⟨a, _, b, _, c, _, rfl⟩ := mem_trip ht
    have fe : [a, b, c].flatten = (a ++ b) ++ c := by simp
    rw [fe] at f3
    simp only [List.length_append] at f3
    have q : ∀ i : Nat, ∀ hi : i < 3, opG ixD (vG 4) (cG (.int (i : Nat))) [some (.int m), some (tupsD L), some (tupI g), some (tupI (others m g)), some (tupsD [a, b, c])] (μ ++ more) = .ok (tupI ([a, b, c].getD i [])) (μ ++ more) := fun i hi => (opG_ok (vG_at rfl) cG_ok).trans (ix_lot (L := [a, b, c]) (i := i) hi _)
    have s : opG addD (opG addD (opG ixD (vG 4) (cG (.int 0))) (opG ixD (vG 4) (cG (.int 1)))) (opG ixD (vG 4) (cG (.int 2))) [some (.int m), some (tupsD L), some (tupI g), some (tupI (others m g)), some (tupsD [a, b, c])] (μ ++ more) = .ok (tupI ((a ++ b) ++ c)) (μ ++ more) := by
      refine (opG_ok ((opG_ok (q 0 (by decide)) (q 1 (by decide))).trans (add_tup (by rw [List.length_map, List.length_map]; show a.length + b.length ≤ _; omega) _)) (q 2 (by decide))).trans ((add_tup (by rw [List.length_append, List.length_map, List.length_map, List.length_map]; show a.length + b.length + c.length ≤ _; omega) _).trans ?_)
      unfold tupI
      rw [List.map_append, List.map_append]; rfl
    refine tB1_ok ((callG_ok (consG_ok (vG_at rfl) (consG_ok s nilG_ok))).trans ((e_ll_within _ _ _).trans ?_))
    rw [within_congr (c := setI [a, b, c].flatten) fun x => by rw [mem_setI, fe]]
  refine fnG_rt (n := 5) ((seqG_nx s0).trans (retG_ok ((nilLG_new (neg := true) l1).trans ?_)))
  rw [List.isEmpty_map, if_pos rfl]
  have z : (!((trip L).filter fun t => within (others m g) (setI t.flatten)).isEmpty) = bindsB m L g := by
    unfold bindsB
    rw [Bool.eq_iff_iff, List.any_eq_true, Bool.not_eq_true', ← Bool.not_eq_true, List.isEmpty_iff, List.filter_eq_nil_iff]
    simp
  rw [z]
theorem enough_binds (g : List Int) (he : enoughB m L g = true) : bindsB m L g = true := by
  obtain ⟨l, hl, w⟩ := List.any_eq_true.mp he
  obtain ⟨t, ht, hx⟩ := trip_any hl hl hl
  refine List.any_eq_true.mpr ⟨t, ht, within_iff.mpr fun x hx' => mem_setI.mpr (hx x (.inl (within_iff.mp w x hx')))⟩
theorem others_more {g k : List Int} (hs : ∀ x ∈ g, x ∈ k) {x : Int} (hx : x ∈ others m k) : x ∈ others m g := by
  obtain ⟨a, b⟩ := mem_others.mp hx
  exact mem_others.mpr ⟨a, fun z => b (hs x z)⟩
theorem enough_more {g k : List Int} (hs : ∀ x ∈ g, x ∈ k) (he : enoughB m L g = true) : enoughB m L k = true := by
  obtain ⟨l, hl, w⟩ := List.any_eq_true.mp he
  exact List.any_eq_true.mpr ⟨l, hl, within_iff.mpr fun x hx => within_iff.mp w x (others_more hs hx)⟩
theorem binds_more {g k : List Int} (hs : ∀ x ∈ g, x ∈ k) (he : bindsB m L g = true) : bindsB m L k = true := by
  obtain ⟨l, hl, w⟩ := List.any_eq_true.mp he
  exact List.any_eq_true.mpr ⟨l, hl, within_iff.mpr fun x hx => within_iff.mp w x (others_more hs hx)⟩
/-- a group, and more people -/
theorem more_grp (hm : m ≤ 7) {g k : List Int} (hg : grpB m g = true) (hk : grpB m k = true) : grpB m (setI (g ++ k)) = true := by
  refine (grpB_iff hm).mpr ⟨setI_sorted _, fun x hx => ?_⟩
  rcases List.mem_append.mp (mem_setI.mp hx) with z | z
  · exact ((grpB_iff hm).mp hg).2 x z
  · exact ((grpB_iff hm).mp hk).2 x z
theorem reprN_ok {a b : EG} {δ : Dn} {μ μ1 μ2 : Store} {d : D} (ha : a δ μ = .ok d μ1) (hb : b δ μ1 = .ok d μ2) (h : okReprN d = true) : reprNeNG a b δ μ = .ok (.bl false) μ2 := by
  unfold reprNeNG
  rw [bnd_ok ha, if_pos h, bnd_ok hb, if_pos rfl]; rfl
theorem okRepr_first (h : LotsOk m L) : okReprN (((trip L).find? (fullB m)).elim .non tupsD) = true := by
  cases hf : (trip L).find? (fullB m) with
  | none => rfl
  | some t =>
    have ht := List.mem_of_find?_eq_some hf
    obtain ⟨a, ha, b, hb, c, hc, rfl⟩ := mem_trip ht
    have hm := h.hi
    refine okRepr_tups (L := [a, b, c]) (by show 3 ≤ 128; omega) fun k hk => ?_
    have g : grpB m k = true := by
      simp only [List.mem_cons, List.not_mem_nil, or_false] at hk
      rcases hk with rfl | rfl | rfl
      · exact h.grp _ ha
      · exact h.grp _ hb
      · exact h.grp _ hc
    exact ⟨Nat.le_trans (grp_len hm g) hm, fun x hx => by have := ((grpB_iff hm).mp g).2 x hx; omega⟩
theorem okRepr_own (h : LotsOk m L) : okReprN (tupsD (ownL m L)) = true := by
  have hm := h.hi
  refine okRepr_tups (by rw [own_len]; have := h.len; omega) fun k hk => ?_
  obtain ⟨l, _, rfl⟩ := mem_own.mp hk
  exact ⟨Nat.le_trans (others_len m l) hm, fun x hx => by have := (mem_others.mp hx).1; omega⟩
end
end K23

set_option autoImplicit false
set_option maxHeartbeats 1000000
/-! What is no number of people, no lots, no group. -/
namespace K23
open PySem L2 Sim

section
variable {m : Nat} {L : List (List Int)} {rest : Store} {B : Nat} {μ : Store}
def badL : Exn := ⟨"BadLots", []⟩
def badG : Exn := ⟨"BadGroup", []⟩
theorem x_many_bad {d : D} (hd : d ∈ [D.non, .int 0, .int 8, .bl true]) (μ : Store) : X_need_many [d] μ = .ex badM μ :=
  trimX_id (fnG_ex (n := 1) ((iteG_t (notB_ok (b := false) (tB1_ok ((callG_ok (consG_ok (vG_at rfl) (consG_ok cG_ok (consG_ok cG_ok nilG_ok)))).trans (noex_at (bad_cnt hd μ)))))).trans rfl))
theorem x_many_ok (h1 : 1 ≤ m) (hm : m ≤ 7) (μ : Store) : X_need_many [.int m] μ = .ok .non μ := by
  have c1 : F_is_count [.int m, .int 1, .int 7] μ = .ok (.bl true) μ := by
    rw [e_is_count]
    have b : (m : Int) < big := by show (m : Int) < 1000000000000000000; omega
    rw [decide_eq_true (by omega), decide_eq_true b, decide_eq_true (by omega)]; rfl
  exact trimX_nx (fnG_nx (n := 1) (δ1 := [some (.int m)]) (iteG_f (notB_ok (b := true) (tB1_ok ((callG_ok (consG_ok (vG_at rfl) (consG_ok cG_ok (consG_ok cG_ok nilG_ok)))).trans (noex_at c1))))))
theorem x_lots_many {d e : D} (hd : d ∈ [D.non, .int 0, .int 8, .bl true]) (μ : Store) : X_need_lots [d, e] μ = .ex badM μ :=
  trimX_id (fnG_ex (n := 5) (seqG_ex (dropG_ex ((callG_ok (consG_ok (vG_at rfl) nilG_ok)).trans (x_many_bad hd μ)))))
/-- what is no tuple -/
theorem x_lots_not (h1 : 1 ≤ m) (h7 : m ≤ 7) {d : D} (hd : isiC [d, .ty "tuple"] μ = .ok (.bl false) μ) : X_need_lots [.int m, d] μ = .ex badL μ :=
  trimX_id (fnG_ex (n := 5) ((seqG_nx (dropG_ok ((callG_ok (consG_ok (vG_at rfl) nilG_ok)).trans (x_many_ok h1 h7 μ)))).trans (seqG_ex ((iteG_t (orB_t (notB_ok (b := false) (tB1_ok hd)))).trans rfl))))
theorem x_lots_nil (h1 : 1 ≤ m) (h7 : m ≤ 7) : X_need_lots [.int m, .tup []] μ = .ex badL μ :=
  trimX_id (fnG_ex (n := 5) ((seqG_nx (dropG_ok ((callG_ok (consG_ok (vG_at rfl) nilG_ok)).trans (x_many_ok h1 h7 μ)))).trans (seqG_ex ((iteG_t (orB_ok (x := false) (y := true) (notB_ok (b := true) (tB1_ok rfl)) fun _ => orB_t (tB1_ok rfl))).trans rfl))))
theorem x_lots_one (h1 : 1 ≤ m) (h7 : m ≤ 7) {x : D} (hx : F_is_group [.int m, x] μ = .ok (.bl false) μ) : X_need_lots [.int m, .tup [x]] μ = .ex badL μ := by
  have q : (lcG [4] (srcG (vG 1)) (nmF 4) yesB (callG (noex F_is_group) (consG (vG 0) (consG (vG 4) nilG)))) [some (.int m), some (.tup [x]), none, none, none] μ = .ok ([false].map D.bl) μ :=
    lcG_map (own := [4]) (fun d : D => d) (fun _ => D.bl false) [x] (chk := fun _ => true) (srcG_tup (vG_at rfl)) rfl fun y hy => by
      rw [List.mem_singleton.mp hy]
      exact ⟨_, rfl, (callG_ok (consG_ok (vG_at rfl) (consG_ok (vG_at rfl) nilG_ok))).trans (noex_at hx)⟩
  exact trimX_id (fnG_ex (n := 5) ((seqG_nx (dropG_ok ((callG_ok (consG_ok (vG_at rfl) nilG_ok)).trans (x_many_ok h1 h7 μ)))).trans (seqG_ex ((iteG_t (orB_ok (x := false) (y := true) (notB_ok (b := true) (tB1_ok rfl)) fun _ => orB_ok (x := false) (y := true) (tB1_ok rfl) fun _ => notB_ok (b := false) (tB1_ok ((cLG_ok q).trans (allC_map [false]))))).trans rfl))))
def okLots (m : Nat) (W : List (List Int)) : Bool := W.all (fun l => grpB m l) && (ascB (fun a b : List Int => decide (a < b)) W && !(W.flatMap fun a => W.map fun b => (!decide (a = b)) && within a b).any id)
theorem x_lots_of (h1 : 1 ≤ m) (h7 : m ≤ 7) {W : List (List Int)} (hw : W.length ≤ 64) (hne : W ≠ []) (μ : Store) : X_need_lots [.int m, tupsD W] μ = if okLots m W = true then .ok .non μ else .ex badL μ := by
  have q1 : (lcG [4] (srcG (vG 1)) (nmF 4) yesB (callG (noex F_is_group) (consG (vG 0) (consG (vG 4) nilG)))) [some (.int m), some (tupsD W), none, none, none] μ = .ok ((W.map fun l => grpB m l).map D.bl) μ := by
    rw [lcG_map (own := [4]) tupI (fun l => D.bl (grpB m l)) W (chk := fun _ => true) (srcG_tup (vG_at rfl)) rfl fun x _ => ⟨_, rfl, (callG_ok (consG_ok (vG_at rfl) (consG_ok (vG_at rfl) nilG_ok))).trans (noex_at (e_is_group _ _ _))⟩]
    rw [List.map_map]; rfl
  have q2 : (lcG [2, 3] (zipG (consG (vG 1) (consG (slTG (vG 1) (partG (cG (.int 1))) noPartG) nilG))) (tpF 2 (consF (nmF 2) (consF (nmF 3) nilF))) yesB (opG ltD (vG 2) (vG 3))) [some (.int m), some (tupsD W), none, none, none] μ = .ok (((W.zip (W.drop 1)).map fun p => decide (p.1 < p.2)).map D.bl) μ := by
    rw [lcG_map (own := [2, 3]) (fun p : List Int × List Int => D.tup [tupI p.1, tupI p.2]) (fun p => D.bl (decide (p.1 < p.2))) (W.zip (W.drop 1)) (chk := fun _ => true) ?_ rfl fun x _ => ⟨_, rfl, by simp [fnG, outR, seqG, setG, retG, thenS, dropG, iteG, nmF, tpF, consF, nilF, vG, cG, opG, unG, caG, cLG, consG, nilG, tupG, andG, orG, notG, blG, ifG, chainG, tB1, andB, orB, notB, yesB, callG, bnd, wipeD, nextG, allocG, lstG, cLLG, cVLG, cQG, cVG, tupC, retNG, ltD_tup]⟩]
    · rw [List.map_map]; rfl
    · simp [fnG, outR, seqG, setG, retG, thenS, dropG, iteG, nmF, tpF, consF, nilF, vG, cG, opG, unG, caG, cLG, consG, nilG, tupG, andG, orG, notG, blG, ifG, chainG, tB1, andB, orB, notB, yesB, callG, bnd, wipeD, nextG, allocG, lstG, cLLG, cVLG, cQG, cVG, tupC, retNG, zipG, slTG, partG, noPartG, zipS, cut1]
      rw [← List.map_tail, zipOf_map]
  have q3 : (lc2G [2, 3] [3] (srcG (vG 1)) (nmF 2) yesB (srcG (vG 1)) (nmF 3) yesB (andG (opG (eqD true) (vG 2) (vG 3)) (callG (noex F_is_within) (consG (vG 2) (consG (vG 3) nilG))))) [some (.int m), some (tupsD W), none, none, none] μ = .ok ((W.flatMap fun a => W.map fun b => (!decide (a = b)) && within a b).map D.bl) μ := by
    rw [lc2G_map (own := [2, 3]) (own1 := [3]) tupI (fun a b => D.bl ((!decide (a = b)) && within a b)) (fun _ b => tupI b) W (fun _ => W) (chk := fun _ => true) (srcG_tup (vG_at rfl)) rfl ?_ fun a _ => ⟨_, rfl, ⟨fun _ => true, srcG_tup (vG_at rfl), rfl⟩, fun b _ => ⟨_, rfl, ?_⟩⟩]
    · rw [List.map_flatMap]
      simp only [List.map_map]
      rfl
    · have z : (W.flatMap fun _ => W).length ≤ 64 * 64 := by
        rw [List.length_flatMap, List.map_const', List.sum_replicate_nat]
        exact Nat.mul_le_mul hw hw
      rw [sizeLine_eq]; omega
    · refine andG_ok (x := !decide (a = b)) (y := within a b) ?_ fun _ => ?_
      · simp [fnG, outR, seqG, setG, retG, thenS, dropG, iteG, nmF, tpF, consF, nilF, vG, cG, opG, unG, caG, cLG, consG, nilG, tupG, andG, orG, notG, blG, ifG, chainG, tB1, andB, orB, notB, yesB, callG, bnd, wipeD, nextG, allocG, lstG, cLLG, cVLG, cQG, cVG, tupC, retNG, eqD_tup]
      · exact (callG_ok (consG_ok (vG_at rfl) (consG_ok (vG_at rfl) nilG_ok))).trans (noex_at (e_is_within _ _ _))
  have e0 : nilTG false (vG 1) [some (.int m), some (tupsD W), none, none, none] μ = .ok (.bl false) μ := by
    cases W with
    | nil => exact absurd rfl hne
    | cons _ _ => rfl
  have t1 : (orB (notB (tB1 (caG isiC (consG (vG 1) (consG (cG (.ty "tuple")) nilG))))) (orB (tB1 (nilTG false (vG 1))) (notB (tB1 (cLG allC (lcG [4] (srcG (vG 1)) (nmF 4) yesB (callG (noex F_is_group) (consG (vG 0) (consG (vG 4) nilG))))))))) [some (.int m), some (tupsD W), none, none, none] μ = .ok (!(W.all fun l => grpB m l)) μ := by
    refine orB_ok (x := false) (notB_ok (b := true) (tB1_ok rfl)) fun _ => orB_ok (x := false) (tB1_ok e0) fun _ => notB_ok (tB1_ok ((cLG_ok q1).trans ?_))
    rw [allC_map, List.all_map]; rfl
  have t2 : (notB (tB1 (cLG allC (lcG [2, 3] (zipG (consG (vG 1) (consG (slTG (vG 1) (partG (cG (.int 1))) noPartG) nilG))) (tpF 2 (consF (nmF 2) (consF (nmF 3) nilF))) yesB (opG ltD (vG 2) (vG 3)))))) [some (.int m), some (tupsD W), none, none, none] μ = .ok (!(ascB (fun a b : List Int => decide (a < b)) W)) μ := by
    refine notB_ok (tB1_ok ((cLG_ok q2).trans ?_))
    rw [allC_map, List.all_map]; rfl
  have t3 : (tB1 (cLG anyC (lc2G [2, 3] [3] (srcG (vG 1)) (nmF 2) yesB (srcG (vG 1)) (nmF 3) yesB (andG (opG (eqD true) (vG 2) (vG 3)) (callG (noex F_is_within) (consG (vG 2) (consG (vG 3) nilG))))))) [some (.int m), some (tupsD W), none, none, none] μ = .ok ((W.flatMap fun a => W.map fun b => (!decide (a = b)) && within a b).any id) μ := by
    refine tB1_ok ((cLG_ok q3).trans ?_)
    rw [anyC_map]
  have s0 : (dropG (callG X_need_many (consG (vG 0) nilG))) [some (.int m), some (tupsD W), none, none, none] μ = .nx [some (.int m), some (tupsD W), none, none, none] μ := dropG_ok ((callG_ok (consG_ok (vG_at rfl) nilG_ok)).trans (x_many_ok h1 h7 μ))
  unfold okLots
  cases c1 : W.all fun l => grpB m l with
  | false =>
    rw [c1] at t1
    exact trimX_id (fnG_ex (n := 5) ((seqG_nx s0).trans (seqG_ex ((iteG_t t1).trans rfl))))
  | true =>
    rw [c1] at t1
    cases c2 : ascB (fun a b : List Int => decide (a < b)) W with
    | false =>
      rw [c2] at t2
      exact trimX_id (fnG_ex (n := 5) ((seqG_nx s0).trans ((seqG_nx (iteG_f t1)).trans (seqG_ex ((iteG_t t2).trans rfl)))))
    | true =>
      rw [c2] at t2
      cases c3 : (W.flatMap fun a => W.map fun b => (!decide (a = b)) && within a b).any id with
      | true =>
        rw [c3] at t3
        exact trimX_id (fnG_ex (n := 5) ((seqG_nx s0).trans ((seqG_nx (iteG_f t1)).trans ((seqG_nx (iteG_f t2)).trans ((iteG_t t3).trans rfl)))))
      | false =>
        rw [c3] at t3
        exact trimX_nx (fnG_nx (n := 5) (δ1 := [some (.int m), some (tupsD W), none, none, none]) ((seqG_nx s0).trans ((seqG_nx (iteG_f t1)).trans ((seqG_nx (iteG_f t2)).trans ((iteG_f t3).trans rfl)))))
theorem x_lots_ok (h : LotsOk m L) (μ : Store) : X_need_lots [.int m, tupsD L] μ = .ok .non μ := by
  rw [x_lots_of h.lo h.hi h.len h.ne μ, if_pos]
  unfold okLots
  rw [List.all_eq_true.mpr h.grp, h.asc]
  show (!((L.flatMap fun a => L.map fun b => (!decide (a = b)) && within a b).any id)) = true
  rw [Bool.not_eq_true', ← Bool.not_eq_true, List.any_eq_true]
  rintro ⟨x, hx, e⟩
  obtain ⟨a, ha, hx⟩ := List.mem_flatMap.mp hx
  obtain ⟨b, hb, rfl⟩ := List.mem_map.mp hx
  simp only [id, Bool.and_eq_true, Bool.not_eq_true', decide_eq_false_iff_not] at e
  rw [h.anti a ha b hb e.1] at e
  exact Bool.noConfusion e.2
theorem x_lots_bad (h1 : 1 ≤ m) (h7 : m ≤ 7) {W : List (List Int)} (hw : W.length ≤ 64) (hne : W ≠ []) (hb : okLots m W = false) (μ : Store) : X_need_lots [.int m, tupsD W] μ = .ex badL μ := by
  rw [x_lots_of h1 h7 hw hne μ, hb]; rfl
theorem grp_not {d : D} (hd : isiC [d, .ty "tuple"] μ = .ok (.bl false) μ) : F_is_group [.int m, d] μ = .ok (.bl false) μ :=
  have q : caG isiC (consG (vG 1) (consG (cG (.ty "tuple")) nilG)) [some (.int m), some d, none, none] μ = .ok (.bl false) μ := (caG_ok (consG_ok (vG_at rfl) (consG_ok cG_ok nilG_ok))).trans hd
  trimP_id (fnG_rt (n := 4) (seqG_rt ((iteG_t (orB_t (notB_ok (b := false) (tB1_ok q)))).trans (retG_ok cG_ok))))
theorem grp_true (μ : Store) : F_is_group [.int m, .tup [.bl true]] μ = .ok (.bl false) μ := by
  have h1 : (lcG [2] (srcG (vG 1)) (nmF 2) yesB (callG F_is_count (consG (vG 2) (consG (cG (.int 0)) (consG (opG subD (vG 0) (cG (.int 1))) nilG))))) [some (.int m), some (.tup [.bl true]), none, none] μ = .ok [.bl false] μ :=
    lcG_map (own := [2]) (fun d : D => d) (fun _ => D.bl false) [.bl true] (chk := fun _ => true) (srcG_tup (vG_at rfl)) rfl fun y hy => by
      rw [List.mem_singleton.mp hy]
      exact ⟨_, rfl, (callG_ok (consG_ok (vG_at rfl) (consG_ok cG_ok (consG_ok ((opG_ok (vG_at rfl) cG_ok).trans (subD_int _ _ _)) nilG_ok)))).trans (cnt_true _ _ _)⟩
  exact trimP_id (fnG_rt (n := 4) (seqG_rt ((iteG_t (orB_ok (x := false) (y := true) (notB_ok (a := tB1 (caG isiC (consG (vG 1) (consG (cG (.ty "tuple")) nilG)))) (b := true) (tB1_ok rfl)) fun _ => notB_ok (b := false) (tB1_ok ((cLG_ok h1).trans (allC_map [false]))))).trans (retG_ok cG_ok))))
theorem isi_loc {k : Nat} {ds : List D} (hk : μ[k]? = some (.lst ds)) : isiC [.loc k, .ty "tuple"] μ = .ok (.bl false) μ := by
  unfold isiC kindD
  simp only [hk]
  rfl
theorem grp_no {k : List Int} (h : grpB m k = false) (μ : Store) : F_is_group [.int m, tupI k] μ = .ok (.bl false) μ := by
  rw [e_is_group]
  exact congrArg (fun b => Rs.ok (D.bl b) μ) h
theorem not_grp (h7 : m ≤ 7) {k : List Int} (h : ¬ (k.Pairwise (· < ·) ∧ ∀ x ∈ k, 0 ≤ x ∧ x < m)) : grpB m k = false := Bool.eq_false_iff.mpr fun e => h ((grpB_iff h7).mp e)
/-- the wrong lots -/
def wrongs (m k : Nat) : List D := [.non, .tup [], .loc k, tupsD [[0, 0]], tupsD [[(m : Int)]], .tup [.tup [.bl true]], tupsD [[], [0]], tupsD [[0], [0]], tupsD [[-1]], .tup [.int 0], .tup [.non], .str "lots"]
def wrongs2 : List D := [tupsD [[1], [0]], tupsD [[1, 0]], tupsD [[0], [0, 1]]]
theorem x_wrong (h1 : 1 ≤ m) (h7 : m ≤ 7) {k : Nat} {ds : List D} (hk : μ[k]? = some (.lst ds)) {d : D} (hd : d ∈ wrongs m k ∨ d ∈ wrongs2) : X_need_lots [.int m, d] μ = .ex badL μ := by
  have big1 : ∀ x : List Int, grpB m x = false → X_need_lots [.int m, tupsD [x]] μ = .ex badL μ := fun x h => x_lots_bad h1 h7 (by show 1 ≤ 64; omega) (List.cons_ne_nil _ _) (by unfold okLots; rw [List.all_cons, h]; rfl) μ
  have asc2 : ∀ x y : List Int, ¬ x < y → X_need_lots [.int m, tupsD [x, y]] μ = .ex badL μ := fun x y h => x_lots_bad h1 h7 (by show 2 ≤ 64; omega) (List.cons_ne_nil _ _) (by
    have z : ascB (fun a b : List Int => decide (a < b)) [x, y] = false := by
      show (decide (x < y) && true) = false
      rw [decide_eq_false h]; rfl
    unfold okLots
    rw [z, Bool.false_and, Bool.and_false]) μ
  have in2 : ∀ x y : List Int, x ≠ y → within x y = true → X_need_lots [.int m, tupsD [x, y]] μ = .ex badL μ := fun x y h w => x_lots_bad h1 h7 (by show 2 ≤ 64; omega) (List.cons_ne_nil _ _) (by
    have z : (([x, y] : List (List Int)).flatMap fun a => [x, y].map fun b => (!decide (a = b)) && within a b).any id = true := by
      refine List.any_eq_true.mpr ⟨_, List.mem_flatMap.mpr ⟨x, List.mem_cons_self, List.mem_map.mpr ⟨y, List.mem_cons_of_mem _ List.mem_cons_self, rfl⟩⟩, ?_⟩
      rw [decide_eq_false h, w]; rfl
    unfold okLots
    rw [z]
    simp) μ
  unfold wrongs wrongs2 at hd
  simp only [List.mem_cons, List.not_mem_nil, or_false] at hd
  rcases hd with (rfl | rfl | rfl | rfl | rfl | rfl | rfl | rfl | rfl | rfl | rfl | rfl) | (rfl | rfl | rfl)
  · exact x_lots_not h1 h7 rfl
  · exact x_lots_nil h1 h7
  · exact x_lots_not h1 h7 (isi_loc hk)
  · exact big1 _ (not_grp h7 fun z => by simp at z)
  · exact big1 _ (not_grp h7 fun z => by have := z.2 m List.mem_cons_self; omega)
  · exact x_lots_one h1 h7 (grp_true μ)
  · exact in2 [] [0] (by decide) (by decide)
  · exact asc2 [0] [0] (by decide)
  · exact big1 _ (not_grp h7 fun z => by have := z.2 (-1) List.mem_cons_self; omega)
  · exact x_lots_one h1 h7 (grp_not rfl)
  · exact x_lots_one h1 h7 (grp_not rfl)
  · exact x_lots_not h1 h7 rfl
  · exact asc2 [1] [0] (by decide)
  · exact big1 _ (not_grp h7 fun z => by simp at z)
  · exact in2 [0] [0, 1] (by decide) (by decide)
theorem x_group {d : D} (hx : F_is_group [.int m, d] μ = .ok (.bl false) μ) : X_need_group [.int m, d] μ = .ex badG μ :=
  trimX_id (fnG_ex (n := 2) ((iteG_t (notB_ok (b := false) (tB1_ok ((callG_ok (consG_ok (vG_at rfl) (consG_ok (vG_at rfl) nilG_ok))).trans (noex_at hx))))).trans rfl))
def odds (m k : Nat) : List D := [.non, .loc k, tupI [(m : Int)], tupI [0, 0], .tup [.bl true], tupI [-1]]
theorem x_odd (h7 : m ≤ 7) {k : Nat} {ds : List D} (hk : μ[k]? = some (.lst ds)) {d : D} (hd : d ∈ odds m k) : X_need_group [.int m, d] μ = .ex badG μ := by
  unfold odds at hd
  simp only [List.mem_cons, List.not_mem_nil, or_false] at hd
  rcases hd with rfl | rfl | rfl | rfl | rfl | rfl
  · exact x_group (grp_not rfl)
  · exact x_group (grp_not (isi_loc hk))
  · exact x_group (grp_no (not_grp h7 fun z => by have := z.2 m List.mem_cons_self; omega) μ)
  · exact x_group (grp_no (not_grp h7 fun z => by simp at z) μ)
  · exact x_group (grp_true μ)
  · exact x_group (grp_no (not_grp h7 fun z => by have := z.2 (-1) List.mem_cons_self; omega) μ)
/-! ### what the asked ones raise -/
variable {x : Exn}
theorem x_may_lie1 {d e f : D} (h : X_need_lots [d, e] μ = .ex x μ) : X_may_lie [d, e, f] μ = .ex x μ :=
  trimX_id (fnG_ex (n := 3) (seqG_ex (dropG_ex ((callG_ok (consG_ok (vG_at rfl) (consG_ok (vG_at rfl) nilG_ok))).trans h))))
theorem x_may_lie2 {d e f : D} (h1 : X_need_lots [d, e] μ = .ok .non μ) (h : X_need_group [d, f] μ = .ex x μ) : X_may_lie [d, e, f] μ = .ex x μ :=
  trimX_id (fnG_ex (n := 3) ((seqG_nx (dropG_ok ((callG_ok (consG_ok (vG_at rfl) (consG_ok (vG_at rfl) nilG_ok))).trans h1))).trans (seqG_ex (dropG_ex ((callG_ok (consG_ok (vG_at rfl) (consG_ok (vG_at rfl) nilG_ok))).trans h)))))
theorem x_is_enough1 {d e f : D} (h : X_need_lots [d, e] μ = .ex x μ) : X_is_enough [d, e, f] μ = .ex x μ :=
  trimX_id (fnG_ex (n := 3) (seqG_ex (dropG_ex ((callG_ok (consG_ok (vG_at rfl) (consG_ok (vG_at rfl) nilG_ok))).trans h))))
theorem x_is_enough2 {d e f : D} (h1 : X_need_lots [d, e] μ = .ok .non μ) (h : X_need_group [d, f] μ = .ex x μ) : X_is_enough [d, e, f] μ = .ex x μ :=
  trimX_id (fnG_ex (n := 3) ((seqG_nx (dropG_ok ((callG_ok (consG_ok (vG_at rfl) (consG_ok (vG_at rfl) nilG_ok))).trans h1))).trans (seqG_ex (dropG_ex ((callG_ok (consG_ok (vG_at rfl) (consG_ok (vG_at rfl) nilG_ok))).trans h)))))
theorem x_is_binding1 {d e f : D} (h : X_need_lots [d, e] μ = .ex x μ) : X_is_binding [d, e, f] μ = .ex x μ :=
  trimX_id (fnG_ex (n := 5) (seqG_ex (dropG_ex ((callG_ok (consG_ok (vG_at rfl) (consG_ok (vG_at rfl) nilG_ok))).trans h))))
theorem x_is_binding2 {d e f : D} (h1 : X_need_lots [d, e] μ = .ok .non μ) (h : X_need_group [d, f] μ = .ex x μ) : X_is_binding [d, e, f] μ = .ex x μ :=
  trimX_id (fnG_ex (n := 5) ((seqG_nx (dropG_ok ((callG_ok (consG_ok (vG_at rfl) (consG_ok (vG_at rfl) nilG_ok))).trans h1))).trans (seqG_ex (dropG_ex ((callG_ok (consG_ok (vG_at rfl) (consG_ok (vG_at rfl) nilG_ok))).trans h)))))
theorem x_three_lots {d e : D} (h : X_need_lots [d, e] μ = .ex x μ) : X_three_lots [d, e] μ = .ex x μ :=
  trimX_id (fnG_ex (n := 2) (seqG_ex (dropG_ex ((callG_ok (consG_ok (vG_at rfl) (consG_ok (vG_at rfl) nilG_ok))).trans h))))
theorem x_enough_groups {d e : D} (h : X_need_lots [d, e] μ = .ex x μ) : X_enough_groups [d, e] μ = .ex x μ :=
  trimX_id (fnG_ex (n := 3) (seqG_ex (dropG_ex ((callG_ok (consG_ok (vG_at rfl) (consG_ok (vG_at rfl) nilG_ok))).trans h))))
theorem x_crossing_votes {d e : D} (h : X_need_lots [d, e] μ = .ex x μ) : X_crossing_votes [d, e] μ = .ex x μ :=
  trimX_id (fnG_ex (n := 3) (seqG_ex (dropG_ex ((callG_ok (consG_ok (vG_at rfl) (consG_ok (vG_at rfl) nilG_ok))).trans h))))
theorem x_is_crossing_votes {d e f : D} (h : X_need_lots [d, e] μ = .ex x μ) : X_is_crossing_votes [d, e, f] μ = .ex x μ :=
  trimX_id (fnG_ex (n := 4) (seqG_ex (dropG_ex ((callG_ok (consG_ok (vG_at rfl) (consG_ok (vG_at rfl) nilG_ok))).trans h))))
theorem x_need_family {d e f : D} (h : X_need_lots [d, e] μ = .ex x μ) : X_need_family [d, e, f] μ = .ex x μ :=
  trimX_id (fnG_ex (n := 4) (seqG_ex (dropG_ex ((callG_ok (consG_ok (vG_at rfl) (consG_ok (vG_at rfl) nilG_ok))).trans h))))
theorem x_is_live {d e f : D} (h : X_need_lots [d, e] μ = .ex x μ) : X_is_live [d, e, f] μ = .ex x μ :=
  trimX_id (fnG_ex (n := 5) (seqG_ex (dropG_ex ((callG_ok (consG_ok (vG_at rfl) (consG_ok (vG_at rfl) (consG_ok (vG_at rfl) nilG_ok)))).trans (x_need_family h)))))
theorem x_lamA {d e : D} (h : X_need_lots [d, e] μ = .ex x μ) : lamFn ["one", "two"] [] (callG X_is_crossing_votes (consG (vG 0) (consG (vG 1) (consG (cG .non) nilG)))) [d, e] μ = .ex x μ :=
  (callG_ok (consG_ok (vG_at rfl) (consG_ok (vG_at rfl) (consG_ok cG_ok nilG_ok)))).trans (x_is_crossing_votes h)
theorem x_lamB {d e : D} (h : X_need_lots [d, e] μ = .ex x μ) : lamFn ["one", "two", "none"] [.int 0] (callG X_is_live (consG (vG 0) (consG (vG 1) (consG (cG .non) nilG)))) [d, e] μ = .ex x μ :=
  (callG_ok (consG_ok (vG_at rfl) (consG_ok (vG_at rfl) (consG_ok cG_ok nilG_ok)))).trans (x_is_live h)
end
end K23

set_option autoImplicit false
set_option maxHeartbeats 1000000
/-! The law is kept. -/
namespace K23
open PySem L2 Sim

theorem word_lots : wordOf "BadLots" = "lots" := by decide +kernel
theorem word_group : wordOf "BadGroup" = "group" := by decide +kernel
theorem truth_eq {a b : Bool} (e : a = b) (μ : Store) : F__law_is_truth [.bl a, .bl b] μ = .ok (.bl true) μ := by
  rw [e_truth, decide_eq_true e]
theorem kw3 {F : Fn} {δ : Dn} {μ : Store} {x y z r : D} (h6 : δ[6]? = some (some x)) (h4 : δ[4]? = some (some y)) (h3 : δ[3]? = some (some z)) (hF : F [z, y, x] μ = .ok r μ) : kwG F 3 [2, 1, 0] (consG (vG 6) (consG (vG 4) (consG (vG 3) nilG))) δ μ = .ok r μ := by
  unfold kwG
  rw [bnd_ok (consG_ok (vG_at h6) (consG_ok (vG_at h4) (consG_ok (vG_at h3) nilG_ok)))]
  exact hF
theorem kw2 {F : Fn} {δ : Dn} {μ : Store} {y z r : D} (h4 : δ[4]? = some (some y)) (h3 : δ[3]? = some (some z)) (hF : F [z, y] μ = .ok r μ) : kwG F 2 [1, 0] (consG (vG 4) (consG (vG 3) nilG)) δ μ = .ok r μ := by
  unfold kwG
  rw [bnd_ok (consG_ok (vG_at h4) (consG_ok (vG_at h3) nilG_ok))]
  exact hF
/-! ### asking -/
theorem findF_all {P : Fn → Prop} {d : Addr} : ∀ {cs : List (Addr × Fn)}, (∀ q ∈ cs, P q.2) → d ∈ cs.map (·.1) → ∃ F, findF cs d = some F ∧ P F
  | p :: r, h, hd => by
    by_cases e : d = p.1
    · exact ⟨p.2, by show (if d = p.1 then some p.2 else findF r d) = _; rw [if_pos e], h p List.mem_cons_self⟩
    · rw [List.map_cons] at hd
      rcases List.mem_cons.mp hd with z | z
      · exact absurd z e
      · obtain ⟨F, h1, h2⟩ := findF_all (fun q hq => h q (List.mem_cons_of_mem _ hq)) z
        exact ⟨F, by show (if d = p.1 then some p.2 else findF r d) = _; rw [if_neg e]; exact h1, h2⟩
theorem ask_no {cs : List (Addr × Fn)} {a : Addr} {F : Fn} {args : AG} {ds : List D} {δ : Dn} {μ : Store} {c w : Str} (h13 : δ[13]? = some (some (.adr a))) (hF : findF cs a = some F) (ha : args δ μ = .ok ds μ) (hx : F ds μ = .ex ⟨c, []⟩ μ) (hw : wordOf c = w) (hs : PyData.strOk w = true) :
    tB1 (opG (eqD true) (kindG wordOf (askG 13 cs args)) (cG (.str w))) δ μ = .ok false μ := by
  have q : askG 13 cs args δ μ = .ex ⟨c, []⟩ μ := by
    unfold askG
    simp only [h13, hF]
    exact (callG_ok ha).trans hx
  exact tB1_ok ((opG_ok (kind_ok q hw) cG_ok).trans (eq_str hs μ))
theorem ok_many : PyData.strOk "many" = true := by decide +kernel
theorem ok_lots : PyData.strOk "lots" = true := by decide +kernel
theorem ok_group : PyData.strOk "group" = true := by decide +kernel
section
variable {m : Nat} {L : List (List Int)} {rest : Store} {B : Nat} {μ : Store} {ns : List Int}
/-! ### what is drawn wrong -/
theorem e_k23_bad (h1 : 1 ≤ m) (h7 : m ≤ 7) (hg : Good rest (B + 1) μ) : ∃ (d : D) (more : Store) (μ' : Store), F__law_k23_bad [stD, .int m] μ = .ok d μ' ∧ Good (rest ++ (.lst [.tup []] :: more)) B μ' ∧ (d ∈ wrongs m (rest.length + 3) ∨ d ∈ wrongs2) := by
  have hz := sizeLine_eq
  have hl := good_length hg
  have one : ∀ {a : AG} {xs : List D} {δ : Dn} {μ : Store}, a δ μ = .ok xs μ → xs.length ≤ 10 → tupG a δ μ = .ok (.tup xs) μ := fun h hl => tupG_ok h (by rw [hz]; omega)
  have g1 := good_snoc (x := .lst [.tup []]) hg
  have g2 := good_snoc (x := .lst (wrongs m (rest.length + 3))) g1
  have a0 : allocG (lstG (consG (tupG nilG) nilG)) [some stD, some (.int m), none] μ = .ok (.loc (rest.length + 3)) (μ ++ [.lst [.tup []]]) := by
    rw [← hl]
    exact allocG_ok (lstG_ok (consG_ok (one nilG_ok (Nat.zero_le _)) nilG_ok) (by rw [hz]; show 1 ≤ _; omega))
  have neg : unG negD (cG (.int 1)) [some stD, some (.int m), none] (μ ++ [.lst [.tup []]]) = .ok (.int (-1)) (μ ++ [.lst [.tup []]]) := rfl
  have i0 : ∀ (i : Int) (ν : Store), tupG (consG (cG (.int i)) nilG) [some stD, some (.int m), none] ν = .ok (tupI [i]) ν := fun i ν => one (xs := [.int i]) (consG_ok cG_ok nilG_ok) (by simp)
  have s0 : (setG (nmF 2) (allocG (lstG (consG (cG .non) (consG (tupG nilG) (consG (allocG (lstG (consG (tupG nilG) nilG))) (consG (tupG (consG (tupG (consG (cG (.int 0)) (consG (cG (.int 0)) nilG))) nilG)) (consG (tupG (consG (tupG (consG (vG 1) nilG)) nilG)) (consG (tupG (consG (tupG (consG (cG (.bl true)) nilG)) nilG)) (consG (tupG (consG (tupG nilG) (consG (tupG (consG (cG (.int 0)) nilG)) nilG))) (consG (tupG (consG (tupG (consG (cG (.int 0)) nilG)) (consG (tupG (consG (cG (.int 0)) nilG)) nilG))) (consG (tupG (consG (tupG (consG (unG negD (cG (.int 1))) nilG)) nilG)) (consG (tupG (consG (cG (.int 0)) nilG)) (consG (tupG (consG (cG .non) nilG)) (consG (cG (.str "lots")) nilG))))))))))))))) [some stD, some (.int m), none] μ = .nx [some stD, some (.int m), some (.loc (rest.length + 4))] (μ ++ [.lst [.tup []]] ++ [.lst (wrongs m (rest.length + 3))]) := by
    have e : rest.length + 4 = (μ ++ [Ob.lst [.tup []]]).length := by rw [List.length_append, hl]; rfl
    rw [e]
    refine setG_nm (allocG_ok (lstG_ok (consG_ok cG_ok (consG_ok (one nilG_ok (Nat.zero_le _)) (consG_ok a0 (consG_ok (one (xs := [tupI [0, 0]]) (consG_ok (one (xs := [.int 0, .int 0]) (consG_ok cG_ok (consG_ok cG_ok nilG_ok)) (by decide)) nilG_ok) (by simp)) (consG_ok (one (xs := [tupI [(m : Int)]]) (consG_ok (one (xs := [.int m]) (consG_ok (vG_at rfl) nilG_ok) (by simp)) nilG_ok) (by simp)) (consG_ok (one (xs := [.tup [.bl true]]) (consG_ok (one (consG_ok cG_ok nilG_ok) (by simp)) nilG_ok) (by simp))
      (consG_ok (one (xs := [tupI [], tupI [0]]) (consG_ok (one (xs := []) nilG_ok (Nat.zero_le _)) (consG_ok (i0 0 _) nilG_ok)) (by simp)) (consG_ok (one (xs := [tupI [0], tupI [0]]) (consG_ok (i0 0 _) (consG_ok (i0 0 _) nilG_ok)) (by simp)) (consG_ok (one (xs := [tupI [-1]]) (consG_ok (one (xs := [.int (-1)]) (consG_ok neg nilG_ok) (by simp)) nilG_ok) (by simp)) (consG_ok (one (xs := [.int 0]) (consG_ok cG_ok nilG_ok) (by simp)) (consG_ok (one (xs := [.non]) (consG_ok cG_ok nilG_ok) (by simp)) (consG_ok cG_ok nilG_ok)))))))))))) (by rw [hz]; show 12 ≤ _; omega)))
  have n2 : (μ ++ [Ob.lst [.tup []]] ++ [Ob.lst (wrongs m (rest.length + 3))])[rest.length + 4]? = some (.lst (wrongs m (rest.length + 3))) := (good_get g2 (rest.length + 1)).trans (by
    rw [List.append_assoc]
    exact get_end2 _ _ _)
  obtain ⟨es, he, hes⟩ : ∃ es : List D, (∀ d ∈ es, d ∈ wrongs2) ∧ ((ifG (tB1 (opG gtD (vG 1) (cG (.int 1)))) (lstG (consG (tupG (consG (tupG (consG (cG (.int 1)) nilG)) (consG (tupG (consG (cG (.int 0)) nilG)) nilG))) (consG (tupG (consG (tupG (consG (cG (.int 1)) (consG (cG (.int 0)) nilG))) nilG)) (consG (tupG (consG (tupG (consG (cG (.int 0)) nilG)) (consG (tupG (consG (cG (.int 0)) (consG (cG (.int 1)) nilG))) nilG))) nilG)))) (lstG nilG)) [some stD, some (.int m), some (.loc (rest.length + 4))] (μ ++ [Ob.lst [.tup []]] ++ [Ob.lst (wrongs m (rest.length + 3))]) = .ok es (μ ++ [Ob.lst [.tup []]] ++ [Ob.lst (wrongs m (rest.length + 3))]) ∧ es.length ≤ 3) := by
    have c1 : tB1 (opG gtD (vG 1) (cG (.int 1))) [some stD, some (.int m), some (.loc (rest.length + 4))] (μ ++ [Ob.lst [.tup []]] ++ [Ob.lst (wrongs m (rest.length + 3))]) = .ok (decide ((1 : Int) < m)) (μ ++ [Ob.lst [.tup []]] ++ [Ob.lst (wrongs m (rest.length + 3))]) := tB1_ok ((opG_ok (vG_at rfl) cG_ok).trans (gtD_int _ _ _))
    cases hd : decide ((1 : Int) < m) with
    | true =>
      rw [hd] at c1
      refine ⟨wrongs2, fun d h => h, (ifG_t c1).trans ?_, by decide⟩
      exact lstG_ok (consG_ok (one (xs := [tupI [1], tupI [0]]) (consG_ok (one (xs := [.int 1]) (consG_ok cG_ok nilG_ok) (by simp)) (consG_ok (one (xs := [.int 0]) (consG_ok cG_ok nilG_ok) (by simp)) nilG_ok)) (by simp)) (consG_ok (one (xs := [tupI [1, 0]]) (consG_ok (one (xs := [.int 1, .int 0]) (consG_ok cG_ok (consG_ok cG_ok nilG_ok)) (by simp)) nilG_ok) (by simp)) (consG_ok (one (xs := [tupI [0], tupI [0, 1]]) (consG_ok (one (xs := [.int 0]) (consG_ok cG_ok nilG_ok) (by simp)) (consG_ok (one (xs := [.int 0, .int 1]) (consG_ok cG_ok (consG_ok cG_ok nilG_ok)) (by simp)) nilG_ok)) (by simp)) nilG_ok))) (by rw [hz]; show 3 ≤ _; omega)
    | false =>
      rw [hd] at c1
      exact ⟨[], (fun d h => nomatch h), (ifG_f c1).trans (lstG_ok nilG_ok (Nat.zero_le _)), Nat.zero_le _⟩
  obtain ⟨hes, hel⟩ := hes
  have g3 := good_snoc (x := .lst (wrongs m (rest.length + 3) ++ es)) g2
  have q5 : (allocG (catG (.val (vG 2)) (.new (ifG (tB1 (opG gtD (vG 1) (cG (.int 1)))) (lstG (consG (tupG (consG (tupG (consG (cG (.int 1)) nilG)) (consG (tupG (consG (cG (.int 0)) nilG)) nilG))) (consG (tupG (consG (tupG (consG (cG (.int 1)) (consG (cG (.int 0)) nilG))) nilG)) (consG (tupG (consG (tupG (consG (cG (.int 0)) nilG)) (consG (tupG (consG (cG (.int 0)) (consG (cG (.int 1)) nilG))) nilG))) nilG)))) (lstG nilG))))) [some stD, some (.int m), some (.loc (rest.length + 4))] (μ ++ [.lst [.tup []]] ++ [.lst (wrongs m (rest.length + 3))]) = .ok (.loc ((rest ++ [Ob.lst [.tup []]] ++ [Ob.lst (wrongs m (rest.length + 3))]).length + 3)) (μ ++ [.lst [.tup []]] ++ [.lst (wrongs m (rest.length + 3))] ++ [.lst (wrongs m (rest.length + 3) ++ es)]) := by
    rw [← good_length g2]
    exact allocG_ok (catG_vn (vG_at rfl) n2 hes (by rw [hz]; show 12 + es.length ≤ _; omega))
  obtain ⟨d, hd, μ', e5, g5⟩ := e_pickL g3 (get_last _ _) (by unfold wrongs; simp) (by rw [List.length_append]; show 12 + es.length ≤ 64; omega)
  refine ⟨d, [.lst (wrongs m (rest.length + 3)), .lst (wrongs m (rest.length + 3) ++ es)], μ', fnG_rt (n := 3) ((seqG_nx s0).trans (retG_ok ((callG_ok (consG_ok (vG_at rfl) (consG_ok q5 nilG_ok))).trans e5))), ?_, (List.mem_append.mp hd).imp id fun z => he d z⟩
  have e : rest ++ [Ob.lst [.tup []]] ++ [Ob.lst (wrongs m (rest.length + 3))] ++ [Ob.lst (wrongs m (rest.length + 3) ++ es)] = rest ++ (.lst [.tup []] :: [.lst (wrongs m (rest.length + 3)), .lst (wrongs m (rest.length + 3) ++ es)]) := by simp
  rw [← e]
  exact g5
/-! ### a lap -/
theorem lap_ok (h : LotsOk m L) {x2 x5 x6 x7 x8 x9 x10 x11 x12 x13 x14 : Option D} (hg : Good rest (B + 20) μ) :
    ∃ (y6 y7 y8 y9 : Option D) (μ' : Store), (seqG (setG (nmF 6) (callG F__law_ll_group (consG (vG 1) (consG (vG 3) nilG)))) (seqG (parG 7 8 (consG (callG F__law_ll_may (consG (vG 4) (consG (callG F__law_ll_rest (consG (vG 3) (consG (vG 6) nilG))) nilG))) (consG (callG F__law_ll_binds (consG (vG 3) (consG (vG 4) (consG (vG 6) nilG)))) nilG))) (seqG (iteG (notB (tB1 (callG F__law_is_truth (consG (kwG F_may_lie 3 [2, 1, 0] (consG (vG 6) (consG (vG 4) (consG (vG 3) nilG)))) (consG (callG F__law_ll_may (consG (vG 4) (consG (vG 6) nilG))) nilG))))) (retG (cG (.bl false))) nextG) (seqG (iteG (orB (notB (tB1 (callG F__law_is_truth (consG (kwG F_is_enough 3 [2, 1, 0] (consG (vG 6) (consG (vG 4) (consG (vG 3) nilG)))) (consG (vG 7) nilG))))) (andB (tB1 (vG 7)) (notB (tB1 (vG 8))))) (retG (cG (.bl false))) nextG) (seqG (iteG (notB (tB1 (callG F__law_is_truth (consG (kwG F_is_binding 3 [2, 1, 0] (consG (vG 6) (consG (vG 4) (consG (vG 3) nilG)))) (consG (vG 8) nilG))))) (retG (cG (.bl false))) nextG) (seqG (setG (nmF 9) (cLG tupC (cQG setIC (opG addD (vG 6) (callG F__law_ll_group (consG (vG 1) (consG (vG 3) nilG))))))) (iteG (orB (andB (tB1 (vG 7)) (notB (tB1 (callG F_is_enough (consG (vG 3) (consG (vG 4) (consG (vG 9) nilG))))))) (andB (tB1 (vG 8)) (notB (tB1 (callG F_is_binding (consG (vG 3) (consG (vG 4) (consG (vG 9) nilG)))))))) (retG (cG (.bl false))) nextG))))))) [some (.fz (ns.map D.int)), some stD, x2, some (.int m), some (tupsD L), x5, x6, x7, x8, x9, x10, x11, x12, x13, x14] μ = .nx [some (.fz (ns.map D.int)), some stD, x2, some (.int m), some (tupsD L), x5, y6, y7, y8, y9, x10, x11, x12, x13, x14] μ' ∧ Good rest B μ' := by
  have m7 := h.hi
  have hz := sizeLine_eq
  obtain ⟨g, μ1, d1, g1, gg⟩ := e_group (B := B + 10) m7 (hg.less (by omega))
  have s0 : (setG (nmF 6) (callG F__law_ll_group (consG (vG 1) (consG (vG 3) nilG)))) [some (.fz (ns.map D.int)), some stD, x2, some (.int m), some (tupsD L), x5, x6, x7, x8, x9, x10, x11, x12, x13, x14] μ = .nx [some (.fz (ns.map D.int)), some stD, x2, some (.int m), some (tupsD L), x5, some (tupI g), x7, x8, x9, x10, x11, x12, x13, x14] μ1 := setG_nm ((callG_ok (consG_ok (vG_at rfl) (consG_ok (vG_at rfl) nilG_ok))).trans d1)
  have s1 : (parG 7 8 (consG (callG F__law_ll_may (consG (vG 4) (consG (callG F__law_ll_rest (consG (vG 3) (consG (vG 6) nilG))) nilG))) (consG (callG F__law_ll_binds (consG (vG 3) (consG (vG 4) (consG (vG 6) nilG)))) nilG))) [some (.fz (ns.map D.int)), some stD, x2, some (.int m), some (tupsD L), x5, some (tupI g), x7, x8, x9, x10, x11, x12, x13, x14] μ1 = .nx [some (.fz (ns.map D.int)), some stD, x2, some (.int m), some (tupsD L), x5, some (tupI g), some (.bl (enoughB m L g)), some (.bl (bindsB m L g)), x9, x10, x11, x12, x13, x14] μ1 := by
    unfold parG
    rw [thenS_ok (consG_ok ((callG_ok (consG_ok (vG_at rfl) (consG_ok ((callG_ok (consG_ok (vG_at rfl) (consG_ok (vG_at rfl) nilG_ok))).trans (e_rest m7 g μ1)) nilG_ok))).trans (e_ll_may _ _ μ1)) (consG_ok ((callG_ok (consG_ok (vG_at rfl) (consG_ok (vG_at rfl) (consG_ok (vG_at rfl) nilG_ok)))).trans (e_ll_binds h g μ1)) nilG_ok))]
    rfl
  have t2 : (notB (tB1 (callG F__law_is_truth (consG (kwG F_may_lie 3 [2, 1, 0] (consG (vG 6) (consG (vG 4) (consG (vG 3) nilG)))) (consG (callG F__law_ll_may (consG (vG 4) (consG (vG 6) nilG))) nilG))))) [some (.fz (ns.map D.int)), some stD, x2, some (.int m), some (tupsD L), x5, some (tupI g), some (.bl (enoughB m L g)), some (.bl (bindsB m L g)), x9, x10, x11, x12, x13, x14] μ1 = .ok false μ1 := notB_ok (b := true) (tB1_ok ((callG_ok (consG_ok (kw3 rfl rfl rfl (e_may_lie h gg μ1)) (consG_ok ((callG_ok (consG_ok (vG_at rfl) (consG_ok (vG_at rfl) nilG_ok))).trans (e_ll_may _ _ μ1)) nilG_ok))).trans (truth_eq rfl _)))
  have t3 : (orB (notB (tB1 (callG F__law_is_truth (consG (kwG F_is_enough 3 [2, 1, 0] (consG (vG 6) (consG (vG 4) (consG (vG 3) nilG)))) (consG (vG 7) nilG))))) (andB (tB1 (vG 7)) (notB (tB1 (vG 8))))) [some (.fz (ns.map D.int)), some stD, x2, some (.int m), some (tupsD L), x5, some (tupI g), some (.bl (enoughB m L g)), some (.bl (bindsB m L g)), x9, x10, x11, x12, x13, x14] μ1 = .ok false μ1 := by
    refine orB_ok (x := false) (y := false) (notB_ok (b := true) (tB1_ok ((callG_ok (consG_ok (kw3 rfl rfl rfl (e_enough h gg μ1)) (consG_ok (vG_at rfl) nilG_ok))).trans (truth_eq rfl _)))) fun _ => ?_
    have z : (enoughB m L g && !bindsB m L g) = false := by
      cases q : enoughB m L g with
      | false => rfl
      | true => rw [enough_binds g q]; rfl
    have c := andB_ok (x := enoughB m L g) (y := !bindsB m L g) (a := (tB1 (vG 7))) (b := (notB (tB1 (vG 8)))) (δ := [some (.fz (ns.map D.int)), some stD, x2, some (.int m), some (tupsD L), x5, some (tupI g), some (.bl (enoughB m L g)), some (.bl (bindsB m L g)), x9, x10, x11, x12, x13, x14]) (μ := μ1) (tB1_ok (vG_at rfl)) fun _ => notB_ok (tB1_ok (vG_at rfl))
    rw [z] at c
    exact c
  have t4 : (notB (tB1 (callG F__law_is_truth (consG (kwG F_is_binding 3 [2, 1, 0] (consG (vG 6) (consG (vG 4) (consG (vG 3) nilG)))) (consG (vG 8) nilG))))) [some (.fz (ns.map D.int)), some stD, x2, some (.int m), some (tupsD L), x5, some (tupI g), some (.bl (enoughB m L g)), some (.bl (bindsB m L g)), x9, x10, x11, x12, x13, x14] μ1 = .ok false μ1 := notB_ok (b := true) (tB1_ok ((callG_ok (consG_ok (kw3 rfl rfl rfl (e_binds h gg μ1)) (consG_ok (vG_at rfl) nilG_ok))).trans (truth_eq rfl _)))
  obtain ⟨k, μ2, d5, g2, gk⟩ := e_group (B := B) m7 (g1.less (by omega))
  have lg := grp_len m7 gg
  have lk := grp_len m7 gk
  have s5 : (setG (nmF 9) (cLG tupC (cQG setIC (opG addD (vG 6) (callG F__law_ll_group (consG (vG 1) (consG (vG 3) nilG))))))) [some (.fz (ns.map D.int)), some stD, x2, some (.int m), some (tupsD L), x5, some (tupI g), some (.bl (enoughB m L g)), some (.bl (bindsB m L g)), x9, x10, x11, x12, x13, x14] μ1 = .nx [some (.fz (ns.map D.int)), some stD, x2, some (.int m), some (tupsD L), x5, some (tupI g), some (.bl (enoughB m L g)), some (.bl (bindsB m L g)), some (tupI (setI (g ++ k))), x10, x11, x12, x13, x14] μ2 := by
    refine setG_nm (cLG_ok (g := tupC) (xs := (setI (g ++ k)).map D.int) (μ1 := μ2) ?_)
    have ad : opG addD (vG 6) (callG F__law_ll_group (consG (vG 1) (consG (vG 3) nilG))) [some (.fz (ns.map D.int)), some stD, x2, some (.int m), some (tupsD L), x5, some (tupI g), some (.bl (enoughB m L g)), some (.bl (bindsB m L g)), x9, x10, x11, x12, x13, x14] μ1 = .ok (tupI (g ++ k)) μ2 := by
      refine (opG_ok (vG_at rfl) ((callG_ok (consG_ok (vG_at rfl) (consG_ok (vG_at rfl) nilG_ok))).trans d5)).trans ((add_tup (by rw [List.length_map, List.length_map]; omega) _).trans ?_)
      unfold tupI
      rw [List.map_append]
    unfold cQG
    rw [bnd_ok ad]
    refine (bnd_ok (a := (g ++ k).map D.int) (μ' := μ2) rfl).trans ?_
    unfold setIC
    simp only [unInts_map]
    rw [if_pos (by rw [List.length_append]; omega)]
    rfl
  have gm := more_grp m7 gg gk
  have sub : ∀ x ∈ g, x ∈ setI (g ++ k) := fun x hx => mem_setI.mpr (List.mem_append_left _ hx)
  have t6 : (orB (andB (tB1 (vG 7)) (notB (tB1 (callG F_is_enough (consG (vG 3) (consG (vG 4) (consG (vG 9) nilG))))))) (andB (tB1 (vG 8)) (notB (tB1 (callG F_is_binding (consG (vG 3) (consG (vG 4) (consG (vG 9) nilG)))))))) [some (.fz (ns.map D.int)), some stD, x2, some (.int m), some (tupsD L), x5, some (tupI g), some (.bl (enoughB m L g)), some (.bl (bindsB m L g)), some (tupI (setI (g ++ k))), x10, x11, x12, x13, x14] μ2 = .ok false μ2 := by
    have z1 : (enoughB m L g && !enoughB m L (setI (g ++ k))) = false := by
      cases q : enoughB m L g with
      | false => rfl
      | true => rw [enough_more sub q]; rfl
    have z2 : (bindsB m L g && !bindsB m L (setI (g ++ k))) = false := by
      cases q : bindsB m L g with
      | false => rfl
      | true => rw [binds_more sub q]; rfl
    have c1 := andB_ok (x := enoughB m L g) (y := !enoughB m L (setI (g ++ k))) (a := (tB1 (vG 7))) (b := (notB (tB1 (callG F_is_enough (consG (vG 3) (consG (vG 4) (consG (vG 9) nilG))))))) (δ := [some (.fz (ns.map D.int)), some stD, x2, some (.int m), some (tupsD L), x5, some (tupI g), some (.bl (enoughB m L g)), some (.bl (bindsB m L g)), some (tupI (setI (g ++ k))), x10, x11, x12, x13, x14]) (μ := μ2) (tB1_ok (vG_at rfl)) fun _ => notB_ok (tB1_ok ((callG_ok (consG_ok (vG_at rfl) (consG_ok (vG_at rfl) (consG_ok (vG_at rfl) nilG_ok)))).trans (e_enough h gm μ2)))
    have c2 := andB_ok (x := bindsB m L g) (y := !bindsB m L (setI (g ++ k))) (a := (tB1 (vG 8))) (b := (notB (tB1 (callG F_is_binding (consG (vG 3) (consG (vG 4) (consG (vG 9) nilG))))))) (δ := [some (.fz (ns.map D.int)), some stD, x2, some (.int m), some (tupsD L), x5, some (tupI g), some (.bl (enoughB m L g)), some (.bl (bindsB m L g)), some (tupI (setI (g ++ k))), x10, x11, x12, x13, x14]) (μ := μ2) (tB1_ok (vG_at rfl)) fun _ => notB_ok (tB1_ok ((callG_ok (consG_ok (vG_at rfl) (consG_ok (vG_at rfl) (consG_ok (vG_at rfl) nilG_ok)))).trans (e_binds h gm μ2)))
    rw [z1] at c1
    rw [z2] at c2
    exact orB_ok (x := false) (y := false) c1 fun _ => c2
  exact ⟨_, _, _, _, μ2, (seqG_nx s0).trans ((seqG_nx s1).trans ((seqG_nx (iteG_f t2)).trans ((seqG_nx (iteG_f t3)).trans ((seqG_nx (iteG_f t4)).trans ((seqG_nx s5).trans (iteG_f t6)))))), g2⟩
/-! ### the loops that ask -/
def Three (m : Nat) (L : List (List Int)) (d10 d11 d12 : D) (μ : Store) (F : Fn) : Prop := F [d10, d11, d12] μ = .ex badM μ ∧ F [.int m, d11, d12] μ = .ex badL μ ∧ F [.int m, tupsD L, d12] μ = .ex badG μ
def Two (m : Nat) (d10 d11 : D) (μ : Store) (F : Fn) : Prop := F [d10, d11] μ = .ex badM μ ∧ F [.int m, d11] μ = .ex badL μ
theorem ask3_ok (ad : Ad) {d10 d11 d12 : D} (hF : Three m L d10 d11 d12 μ X_may_lie ∧ Three m L d10 d11 d12 μ X_is_enough ∧ Three m L d10 d11 d12 μ X_is_binding) {x2 x5 x6 x7 x8 x9 x13 x14 : Option D} :
    ∃ y13 : Option D, (forG (srcL (lstG (consG (cG (.adr ad.may_lie)) (consG (cG (.adr ad.is_enough)) (consG (cG (.adr ad.is_binding)) nilG))))) (nmF 13) (seqG (iteG (orB (tB1 (opG (eqD true) (kindG wordOf (askG 13 [(ad.may_lie, X_may_lie), (ad.is_enough, X_is_enough), (ad.is_binding, X_is_binding)] (consG (vG 10) (consG (vG 11) (consG (vG 12) nilG))))) (cG (.str "many")))) (tB1 (opG (eqD true) (kindG wordOf (askG 13 [(ad.may_lie, X_may_lie), (ad.is_enough, X_is_enough), (ad.is_binding, X_is_binding)] (consG (vG 3) (consG (vG 11) (consG (vG 12) nilG))))) (cG (.str "lots"))))) (retG (cG (.bl false))) nextG) (iteG (tB1 (opG (eqD true) (kindG wordOf (askG 13 [(ad.may_lie, X_may_lie), (ad.is_enough, X_is_enough), (ad.is_binding, X_is_binding)] (consG (vG 3) (consG (vG 4) (consG (vG 12) nilG))))) (cG (.str "group")))) (retG (cG (.bl false))) nextG))) [some (.fz (ns.map D.int)), some stD, x2, some (.int m), some (tupsD L), x5, x6, x7, x8, x9, some d10, some d11, some d12, x13, x14] μ = .nx [some (.fz (ns.map D.int)), some stD, x2, some (.int m), some (tupsD L), x5, x6, x7, x8, x9, some d10, some d11, some d12, y13, x14] μ := by
  have hz := sizeLine_eq
  have one : ∀ a : Addr, a ∈ (([(ad.may_lie, X_may_lie), (ad.is_enough, X_is_enough), (ad.is_binding, X_is_binding)] : List (Addr × Fn)).map (·.1)) → (seqG (iteG (orB (tB1 (opG (eqD true) (kindG wordOf (askG 13 [(ad.may_lie, X_may_lie), (ad.is_enough, X_is_enough), (ad.is_binding, X_is_binding)] (consG (vG 10) (consG (vG 11) (consG (vG 12) nilG))))) (cG (.str "many")))) (tB1 (opG (eqD true) (kindG wordOf (askG 13 [(ad.may_lie, X_may_lie), (ad.is_enough, X_is_enough), (ad.is_binding, X_is_binding)] (consG (vG 3) (consG (vG 11) (consG (vG 12) nilG))))) (cG (.str "lots"))))) (retG (cG (.bl false))) nextG) (iteG (tB1 (opG (eqD true) (kindG wordOf (askG 13 [(ad.may_lie, X_may_lie), (ad.is_enough, X_is_enough), (ad.is_binding, X_is_binding)] (consG (vG 3) (consG (vG 4) (consG (vG 12) nilG))))) (cG (.str "group")))) (retG (cG (.bl false))) nextG)) [some (.fz (ns.map D.int)), some stD, x2, some (.int m), some (tupsD L), x5, x6, x7, x8, x9, some d10, some d11, some d12, some (.adr a), x14] μ = .nx [some (.fz (ns.map D.int)), some stD, x2, some (.int m), some (tupsD L), x5, x6, x7, x8, x9, some d10, some d11, some d12, some (.adr a), x14] μ := fun a ha => by
    obtain ⟨F, hf, h1, h2, h3⟩ := findF_all (P := Three m L d10 d11 d12 μ) (d := a) (cs := [(ad.may_lie, X_may_lie), (ad.is_enough, X_is_enough), (ad.is_binding, X_is_binding)]) (by
      intro q hq
      simp only [List.mem_cons, List.not_mem_nil, or_false] at hq
      rcases hq with rfl | rfl | rfl
      · exact hF.1
      · exact hF.2.1
      · exact hF.2.2) ha
    have t1 : (tB1 (opG (eqD true) (kindG wordOf (askG 13 [(ad.may_lie, X_may_lie), (ad.is_enough, X_is_enough), (ad.is_binding, X_is_binding)] (consG (vG 10) (consG (vG 11) (consG (vG 12) nilG))))) (cG (.str "many")))) [some (.fz (ns.map D.int)), some stD, x2, some (.int m), some (tupsD L), x5, x6, x7, x8, x9, some d10, some d11, some d12, some (.adr a), x14] μ = .ok false μ := ask_no rfl hf (consG_ok (vG_at rfl) (consG_ok (vG_at rfl) (consG_ok (vG_at rfl) nilG_ok))) h1 word_many ok_many
    have t2 : (tB1 (opG (eqD true) (kindG wordOf (askG 13 [(ad.may_lie, X_may_lie), (ad.is_enough, X_is_enough), (ad.is_binding, X_is_binding)] (consG (vG 3) (consG (vG 11) (consG (vG 12) nilG))))) (cG (.str "lots")))) [some (.fz (ns.map D.int)), some stD, x2, some (.int m), some (tupsD L), x5, x6, x7, x8, x9, some d10, some d11, some d12, some (.adr a), x14] μ = .ok false μ := ask_no rfl hf (consG_ok (vG_at rfl) (consG_ok (vG_at rfl) (consG_ok (vG_at rfl) nilG_ok))) h2 word_lots ok_lots
    have t3 : (tB1 (opG (eqD true) (kindG wordOf (askG 13 [(ad.may_lie, X_may_lie), (ad.is_enough, X_is_enough), (ad.is_binding, X_is_binding)] (consG (vG 3) (consG (vG 4) (consG (vG 12) nilG))))) (cG (.str "group")))) [some (.fz (ns.map D.int)), some stD, x2, some (.int m), some (tupsD L), x5, x6, x7, x8, x9, some d10, some d11, some d12, some (.adr a), x14] μ = .ok false μ := ask_no rfl hf (consG_ok (vG_at rfl) (consG_ok (vG_at rfl) (consG_ok (vG_at rfl) nilG_ok))) h3 word_group ok_group
    exact (seqG_nx (iteG_f (orB_ok (x := false) (y := false) t1 fun _ => t2))).trans (iteG_f t3)
  obtain ⟨δ', ν, e, y13, rfl, rfl⟩ := forG_all (I := (srcL (lstG (consG (cG (.adr ad.may_lie)) (consG (cG (.adr ad.is_enough)) (consG (cG (.adr ad.is_binding)) nilG)))))) (set := nmF 13) (body := (seqG (iteG (orB (tB1 (opG (eqD true) (kindG wordOf (askG 13 [(ad.may_lie, X_may_lie), (ad.is_enough, X_is_enough), (ad.is_binding, X_is_binding)] (consG (vG 10) (consG (vG 11) (consG (vG 12) nilG))))) (cG (.str "many")))) (tB1 (opG (eqD true) (kindG wordOf (askG 13 [(ad.may_lie, X_may_lie), (ad.is_enough, X_is_enough), (ad.is_binding, X_is_binding)] (consG (vG 3) (consG (vG 11) (consG (vG 12) nilG))))) (cG (.str "lots"))))) (retG (cG (.bl false))) nextG) (iteG (tB1 (opG (eqD true) (kindG wordOf (askG 13 [(ad.may_lie, X_may_lie), (ad.is_enough, X_is_enough), (ad.is_binding, X_is_binding)] (consG (vG 3) (consG (vG 4) (consG (vG 12) nilG))))) (cG (.str "group")))) (retG (cG (.bl false))) nextG))) (δ := [some (.fz (ns.map D.int)), some stD, x2, some (.int m), some (tupsD L), x5, x6, x7, x8, x9, some d10, some d11, some d12, x13, x14]) (μ := μ)
    (fun i δ ν => ∃ x13 : Option D, δ = [some (.fz (ns.map D.int)), some stD, x2, some (.int m), some (tupsD L), x5, x6, x7, x8, x9, some d10, some d11, some d12, x13, x14] ∧ ν = μ)
    (srcL_ok (lstG_ok (consG_ok cG_ok (consG_ok cG_ok (consG_ok cG_ok nilG_ok))) (by rw [hz]; show 3 ≤ _; omega))) (fun _ _ _ _ => rfl) (by
      rintro i d δ ν hd ⟨x13, rfl, rfl⟩
      have hm : d ∈ [D.adr ad.may_lie, D.adr ad.is_enough, D.adr ad.is_binding] := List.mem_of_getElem? hd
      simp only [List.mem_cons, List.not_mem_nil, or_false] at hm
      rcases hm with rfl | rfl | rfl
      · exact ⟨_, rfl, _, _, one _ (by simp), _, rfl, rfl⟩
      · exact ⟨_, rfl, _, _, one _ (by simp), _, rfl, rfl⟩
      · exact ⟨_, rfl, _, _, one _ (by simp), _, rfl, rfl⟩) ⟨x13, rfl, rfl⟩
  exact ⟨_, e⟩
theorem ask2_ok (ad : Ad) {d10 d11 : D} {d12 : Option D} (h1 : X_need_lots [d10, d11] μ = .ex badM μ) (h2 : X_need_lots [.int m, d11] μ = .ex badL μ) {x2 x5 x6 x7 x8 x9 x13 x14 : Option D} :
    (loopG 13 fun lEA lEB => (forG (srcL (lstG (consG (cG (.adr ad.three_lots)) (consG (cG (.adr ad.enough_groups)) (consG (cG (.adr ad.crossing_votes)) (consG (cG (.adr lEA)) (consG (cG (.adr lEB)) nilG))))))) (nmF 13) (iteG (orB (tB1 (opG (eqD true) (kindG wordOf (askG 13 ([(ad.three_lots, X_three_lots), (ad.enough_groups, X_enough_groups), (ad.crossing_votes, X_crossing_votes)] ++ [(lEA, lamFn ["one", "two"] [] (callG X_is_crossing_votes (consG (vG 0) (consG (vG 1) (consG (cG .non) nilG))))), (lEB, lamFn ["one", "two", "none"] [.int 0] (callG X_is_live (consG (vG 0) (consG (vG 1) (consG (cG .non) nilG)))))]) (consG (vG 10) (consG (vG 11) nilG)))) (cG (.str "many")))) (tB1 (opG (eqD true) (kindG wordOf (askG 13 ([(ad.three_lots, X_three_lots), (ad.enough_groups, X_enough_groups), (ad.crossing_votes, X_crossing_votes)] ++ [(lEA, lamFn ["one", "two"] [] (callG X_is_crossing_votes (consG (vG 0) (consG (vG 1) (consG (cG .non) nilG))))), (lEB, lamFn ["one", "two", "none"] [.int 0] (callG X_is_live (consG (vG 0) (consG (vG 1) (consG (cG .non) nilG)))))]) (consG (vG 3) (consG (vG 11) nilG)))) (cG (.str "lots"))))) (retG (cG (.bl false))) nextG))) [some (.fz (ns.map D.int)), some stD, x2, some (.int m), some (tupsD L), x5, x6, x7, x8, x9, some d10, some d11, d12, x13, x14] μ = .nx [some (.fz (ns.map D.int)), some stD, x2, some (.int m), some (tupsD L), x5, x6, x7, x8, x9, some d10, some d11, d12, none, x14] μ := by
  have hz := sizeLine_eq
  unfold loopG
  rw [if_pos]
  · rfl
  intro lEA lEB
  have one : ∀ a : Addr, a ∈ ((([(ad.three_lots, X_three_lots), (ad.enough_groups, X_enough_groups), (ad.crossing_votes, X_crossing_votes)] ++ [(lEA, lamFn ["one", "two"] [] (callG X_is_crossing_votes (consG (vG 0) (consG (vG 1) (consG (cG .non) nilG))))), (lEB, lamFn ["one", "two", "none"] [.int 0] (callG X_is_live (consG (vG 0) (consG (vG 1) (consG (cG .non) nilG)))))]) : List (Addr × Fn)).map (·.1)) → (iteG (orB (tB1 (opG (eqD true) (kindG wordOf (askG 13 ([(ad.three_lots, X_three_lots), (ad.enough_groups, X_enough_groups), (ad.crossing_votes, X_crossing_votes)] ++ [(lEA, lamFn ["one", "two"] [] (callG X_is_crossing_votes (consG (vG 0) (consG (vG 1) (consG (cG .non) nilG))))), (lEB, lamFn ["one", "two", "none"] [.int 0] (callG X_is_live (consG (vG 0) (consG (vG 1) (consG (cG .non) nilG)))))]) (consG (vG 10) (consG (vG 11) nilG)))) (cG (.str "many")))) (tB1 (opG (eqD true) (kindG wordOf (askG 13 ([(ad.three_lots, X_three_lots), (ad.enough_groups, X_enough_groups), (ad.crossing_votes, X_crossing_votes)] ++ [(lEA, lamFn ["one", "two"] [] (callG X_is_crossing_votes (consG (vG 0) (consG (vG 1) (consG (cG .non) nilG))))), (lEB, lamFn ["one", "two", "none"] [.int 0] (callG X_is_live (consG (vG 0) (consG (vG 1) (consG (cG .non) nilG)))))]) (consG (vG 3) (consG (vG 11) nilG)))) (cG (.str "lots"))))) (retG (cG (.bl false))) nextG) [some (.fz (ns.map D.int)), some stD, x2, some (.int m), some (tupsD L), x5, x6, x7, x8, x9, some d10, some d11, d12, some (.adr a), x14] μ = .nx [some (.fz (ns.map D.int)), some stD, x2, some (.int m), some (tupsD L), x5, x6, x7, x8, x9, some d10, some d11, d12, some (.adr a), x14] μ := fun a ha => by
    obtain ⟨F, hf, h1, h2⟩ := findF_all (P := Two m d10 d11 μ) (d := a) (cs := ([(ad.three_lots, X_three_lots), (ad.enough_groups, X_enough_groups), (ad.crossing_votes, X_crossing_votes)] ++ [(lEA, lamFn ["one", "two"] [] (callG X_is_crossing_votes (consG (vG 0) (consG (vG 1) (consG (cG .non) nilG))))), (lEB, lamFn ["one", "two", "none"] [.int 0] (callG X_is_live (consG (vG 0) (consG (vG 1) (consG (cG .non) nilG)))))])) (by
      intro q hq
      simp only [List.mem_append, List.mem_cons, List.not_mem_nil, or_false] at hq
      rcases hq with (rfl | rfl | rfl) | (rfl | rfl)
      · exact ⟨x_three_lots h1, x_three_lots h2⟩
      · exact ⟨x_enough_groups h1, x_enough_groups h2⟩
      · exact ⟨x_crossing_votes h1, x_crossing_votes h2⟩
      · exact ⟨x_lamA h1, x_lamA h2⟩
      · exact ⟨x_lamB h1, x_lamB h2⟩) ha
    have t1 : (tB1 (opG (eqD true) (kindG wordOf (askG 13 ([(ad.three_lots, X_three_lots), (ad.enough_groups, X_enough_groups), (ad.crossing_votes, X_crossing_votes)] ++ [(lEA, lamFn ["one", "two"] [] (callG X_is_crossing_votes (consG (vG 0) (consG (vG 1) (consG (cG .non) nilG))))), (lEB, lamFn ["one", "two", "none"] [.int 0] (callG X_is_live (consG (vG 0) (consG (vG 1) (consG (cG .non) nilG)))))]) (consG (vG 10) (consG (vG 11) nilG)))) (cG (.str "many")))) [some (.fz (ns.map D.int)), some stD, x2, some (.int m), some (tupsD L), x5, x6, x7, x8, x9, some d10, some d11, d12, some (.adr a), x14] μ = .ok false μ := ask_no rfl hf (consG_ok (vG_at rfl) (consG_ok (vG_at rfl) nilG_ok)) h1 word_many ok_many
    have t2 : (tB1 (opG (eqD true) (kindG wordOf (askG 13 ([(ad.three_lots, X_three_lots), (ad.enough_groups, X_enough_groups), (ad.crossing_votes, X_crossing_votes)] ++ [(lEA, lamFn ["one", "two"] [] (callG X_is_crossing_votes (consG (vG 0) (consG (vG 1) (consG (cG .non) nilG))))), (lEB, lamFn ["one", "two", "none"] [.int 0] (callG X_is_live (consG (vG 0) (consG (vG 1) (consG (cG .non) nilG)))))]) (consG (vG 3) (consG (vG 11) nilG)))) (cG (.str "lots")))) [some (.fz (ns.map D.int)), some stD, x2, some (.int m), some (tupsD L), x5, x6, x7, x8, x9, some d10, some d11, d12, some (.adr a), x14] μ = .ok false μ := ask_no rfl hf (consG_ok (vG_at rfl) (consG_ok (vG_at rfl) nilG_ok)) h2 word_lots ok_lots
    exact iteG_f (orB_ok (x := false) (y := false) t1 fun _ => t2)
  obtain ⟨δ', ν, e, y13, rfl, rfl⟩ := forG_all (I := (srcL (lstG (consG (cG (.adr ad.three_lots)) (consG (cG (.adr ad.enough_groups)) (consG (cG (.adr ad.crossing_votes)) (consG (cG (.adr lEA)) (consG (cG (.adr lEB)) nilG)))))))) (set := nmF 13) (body := (iteG (orB (tB1 (opG (eqD true) (kindG wordOf (askG 13 ([(ad.three_lots, X_three_lots), (ad.enough_groups, X_enough_groups), (ad.crossing_votes, X_crossing_votes)] ++ [(lEA, lamFn ["one", "two"] [] (callG X_is_crossing_votes (consG (vG 0) (consG (vG 1) (consG (cG .non) nilG))))), (lEB, lamFn ["one", "two", "none"] [.int 0] (callG X_is_live (consG (vG 0) (consG (vG 1) (consG (cG .non) nilG)))))]) (consG (vG 10) (consG (vG 11) nilG)))) (cG (.str "many")))) (tB1 (opG (eqD true) (kindG wordOf (askG 13 ([(ad.three_lots, X_three_lots), (ad.enough_groups, X_enough_groups), (ad.crossing_votes, X_crossing_votes)] ++ [(lEA, lamFn ["one", "two"] [] (callG X_is_crossing_votes (consG (vG 0) (consG (vG 1) (consG (cG .non) nilG))))), (lEB, lamFn ["one", "two", "none"] [.int 0] (callG X_is_live (consG (vG 0) (consG (vG 1) (consG (cG .non) nilG)))))]) (consG (vG 3) (consG (vG 11) nilG)))) (cG (.str "lots"))))) (retG (cG (.bl false))) nextG)) (δ := [some (.fz (ns.map D.int)), some stD, x2, some (.int m), some (tupsD L), x5, x6, x7, x8, x9, some d10, some d11, d12, x13, x14]) (μ := μ)
    (fun i δ ν => ∃ x13 : Option D, δ = [some (.fz (ns.map D.int)), some stD, x2, some (.int m), some (tupsD L), x5, x6, x7, x8, x9, some d10, some d11, d12, x13, x14] ∧ ν = μ)
    (srcL_ok (lstG_ok (consG_ok cG_ok (consG_ok cG_ok (consG_ok cG_ok (consG_ok cG_ok (consG_ok cG_ok nilG_ok))))) (by rw [hz]; show 5 ≤ _; omega))) (fun _ _ _ _ => rfl) (by
      rintro i d δ ν hd ⟨x13, rfl, rfl⟩
      have hm : d ∈ [D.adr ad.three_lots, D.adr ad.enough_groups, D.adr ad.crossing_votes, D.adr lEA, D.adr lEB] := List.mem_of_getElem? hd
      simp only [List.mem_cons, List.not_mem_nil, or_false] at hm
      rcases hm with rfl | rfl | rfl | rfl | rfl
      · exact ⟨_, rfl, _, _, one _ (by simp), _, rfl, rfl⟩
      · exact ⟨_, rfl, _, _, one _ (by simp), _, rfl, rfl⟩
      · exact ⟨_, rfl, _, _, one _ (by simp), _, rfl, rfl⟩
      · exact ⟨_, rfl, _, _, one _ (by simp), _, rfl, rfl⟩
      · exact ⟨_, rfl, _, _, one _ (by simp), _, rfl, rfl⟩) ⟨x13, rfl, rfl⟩
  exact ⟨_, e⟩
theorem turn_ok (ad : Ad) {x2 x3 x4 x5 x6 x7 x8 x9 x10 x11 x12 x13 x14 : Option D} (hg : Good rest (B + 400) μ) :
    ∃ (rest' : Store) (y3 y4 y5 y6 y7 y8 y9 y10 y11 y12 : Option D) (μ' : Store), (seqG (setG (tpF 2 (consF (nmF 3) (consF (nmF 4) nilF))) (callG F__law_ll_lots (consG (vG 1) nilG))) (seqG (iteG (tB1 (reprNeNG (kwG F_three_lots 2 [1, 0] (consG (vG 4) (consG (vG 3) nilG))) (callG F__law_ll_first (consG (vG 3) (consG (vG 4) nilG))))) (retG (cG (.bl false))) nextG) (seqG (iteG (tB1 (reprNeNG (kwG F_enough_groups 2 [1, 0] (consG (vG 4) (consG (vG 3) nilG))) (cLG tupC (cLLG sortTC (lcG [14] (srcG (vG 4)) (nmF 14) yesB (callG F__law_ll_rest (consG (vG 3) (consG (vG 14) nilG)))))))) (retG (cG (.bl false))) nextG) (seqG (forG (rng1G (consG (cG (.int 6)) nilG)) (nmF 5) (seqG (setG (nmF 6) (callG F__law_ll_group (consG (vG 1) (consG (vG 3) nilG)))) (seqG (parG 7 8 (consG (callG F__law_ll_may (consG (vG 4) (consG (callG F__law_ll_rest (consG (vG 3) (consG (vG 6) nilG))) nilG))) (consG (callG F__law_ll_binds (consG (vG 3) (consG (vG 4) (consG (vG 6) nilG)))) nilG))) (seqG (iteG (notB (tB1 (callG F__law_is_truth (consG (kwG F_may_lie 3 [2, 1, 0] (consG (vG 6) (consG (vG 4) (consG (vG 3) nilG)))) (consG (callG F__law_ll_may (consG (vG 4) (consG (vG 6) nilG))) nilG))))) (retG (cG (.bl false))) nextG) (seqG (iteG (orB (notB (tB1 (callG F__law_is_truth (consG (kwG F_is_enough 3 [2, 1, 0] (consG (vG 6) (consG (vG 4) (consG (vG 3) nilG)))) (consG (vG 7) nilG))))) (andB (tB1 (vG 7)) (notB (tB1 (vG 8))))) (retG (cG (.bl false))) nextG) (seqG (iteG (notB (tB1 (callG F__law_is_truth (consG (kwG F_is_binding 3 [2, 1, 0] (consG (vG 6) (consG (vG 4) (consG (vG 3) nilG)))) (consG (vG 8) nilG))))) (retG (cG (.bl false))) nextG) (seqG (setG (nmF 9) (cLG tupC (cQG setIC (opG addD (vG 6) (callG F__law_ll_group (consG (vG 1) (consG (vG 3) nilG))))))) (iteG (orB (andB (tB1 (vG 7)) (notB (tB1 (callG F_is_enough (consG (vG 3) (consG (vG 4) (consG (vG 9) nilG))))))) (andB (tB1 (vG 8)) (notB (tB1 (callG F_is_binding (consG (vG 3) (consG (vG 4) (consG (vG 9) nilG)))))))) (retG (cG (.bl false))) nextG)))))))) (seqG (setG (tpF 3 (consF (nmF 10) (consF (nmF 11) (consF (nmF 12) nilF)))) (tupG (consG (callG F__law_pick (consG (vG 1) (consG (allocG (lstG (consG (cG .non) (consG (cG (.int 0)) (consG (cG (.int 8)) (consG (cG (.bl true)) nilG)))))) nilG))) (consG (callG F__law_k23_bad (consG (vG 1) (consG (vG 3) nilG))) (consG (callG F__law_pick (consG (vG 1) (consG (allocG (lstG (consG (cG .non) (consG (allocG (lstG (consG (cG (.int 0)) nilG))) (consG (tupG (consG (vG 3) nilG)) (consG (tupG (consG (cG (.int 0)) (consG (cG (.int 0)) nilG))) (consG (tupG (consG (cG (.bl true)) nilG)) (consG (tupG (consG (unG negD (cG (.int 1))) nilG)) nilG)))))))) nilG))) nilG))))) (seqG (forG (srcL (lstG (consG (cG (.adr ad.may_lie)) (consG (cG (.adr ad.is_enough)) (consG (cG (.adr ad.is_binding)) nilG))))) (nmF 13) (seqG (iteG (orB (tB1 (opG (eqD true) (kindG wordOf (askG 13 [(ad.may_lie, X_may_lie), (ad.is_enough, X_is_enough), (ad.is_binding, X_is_binding)] (consG (vG 10) (consG (vG 11) (consG (vG 12) nilG))))) (cG (.str "many")))) (tB1 (opG (eqD true) (kindG wordOf (askG 13 [(ad.may_lie, X_may_lie), (ad.is_enough, X_is_enough), (ad.is_binding, X_is_binding)] (consG (vG 3) (consG (vG 11) (consG (vG 12) nilG))))) (cG (.str "lots"))))) (retG (cG (.bl false))) nextG) (iteG (tB1 (opG (eqD true) (kindG wordOf (askG 13 [(ad.may_lie, X_may_lie), (ad.is_enough, X_is_enough), (ad.is_binding, X_is_binding)] (consG (vG 3) (consG (vG 4) (consG (vG 12) nilG))))) (cG (.str "group")))) (retG (cG (.bl false))) nextG))) (loopG 13 fun lEA lEB => (forG (srcL (lstG (consG (cG (.adr ad.three_lots)) (consG (cG (.adr ad.enough_groups)) (consG (cG (.adr ad.crossing_votes)) (consG (cG (.adr lEA)) (consG (cG (.adr lEB)) nilG))))))) (nmF 13) (iteG (orB (tB1 (opG (eqD true) (kindG wordOf (askG 13 ([(ad.three_lots, X_three_lots), (ad.enough_groups, X_enough_groups), (ad.crossing_votes, X_crossing_votes)] ++ [(lEA, lamFn ["one", "two"] [] (callG X_is_crossing_votes (consG (vG 0) (consG (vG 1) (consG (cG .non) nilG))))), (lEB, lamFn ["one", "two", "none"] [.int 0] (callG X_is_live (consG (vG 0) (consG (vG 1) (consG (cG .non) nilG)))))]) (consG (vG 10) (consG (vG 11) nilG)))) (cG (.str "many")))) (tB1 (opG (eqD true) (kindG wordOf (askG 13 ([(ad.three_lots, X_three_lots), (ad.enough_groups, X_enough_groups), (ad.crossing_votes, X_crossing_votes)] ++ [(lEA, lamFn ["one", "two"] [] (callG X_is_crossing_votes (consG (vG 0) (consG (vG 1) (consG (cG .non) nilG))))), (lEB, lamFn ["one", "two", "none"] [.int 0] (callG X_is_live (consG (vG 0) (consG (vG 1) (consG (cG .non) nilG)))))]) (consG (vG 3) (consG (vG 11) nilG)))) (cG (.str "lots"))))) (retG (cG (.bl false))) nextG))))))))) [some (.fz (ns.map D.int)), some stD, x2, x3, x4, x5, x6, x7, x8, x9, x10, x11, x12, x13, x14] μ = .nx [some (.fz (ns.map D.int)), some stD, x2, y3, y4, y5, y6, y7, y8, y9, y10, y11, y12, none, x14] μ' ∧ Good rest' B μ' := by
  have hz := sizeLine_eq
  obtain ⟨m, L, rest1, μ1, d1, g1, h⟩ := e_lots (B := B + 300) (hg.less (by omega))
  have m7 := h.hi
  have m1 := h.lo
  have s0 : (setG (tpF 2 (consF (nmF 3) (consF (nmF 4) nilF))) (callG F__law_ll_lots (consG (vG 1) nilG))) [some (.fz (ns.map D.int)), some stD, x2, x3, x4, x5, x6, x7, x8, x9, x10, x11, x12, x13, x14] μ = .nx [some (.fz (ns.map D.int)), some stD, x2, some (.int m), some (tupsD L), x5, x6, x7, x8, x9, x10, x11, x12, x13, x14] μ1 := setG_ok ((callG_ok (consG_ok (vG_at rfl) nilG_ok)).trans d1) rfl
  have t1 : (tB1 (reprNeNG (kwG F_three_lots 2 [1, 0] (consG (vG 4) (consG (vG 3) nilG))) (callG F__law_ll_first (consG (vG 3) (consG (vG 4) nilG))))) [some (.fz (ns.map D.int)), some stD, x2, some (.int m), some (tupsD L), x5, x6, x7, x8, x9, x10, x11, x12, x13, x14] μ1 = .ok false μ1 := tB1_ok (reprN_ok (kw2 rfl rfl (e_three_lots h μ1)) ((callG_ok (consG_ok (vG_at rfl) (consG_ok (vG_at rfl) nilG_ok))).trans (e_ll_first h μ1)) (okRepr_first h))
  have own : (cLG tupC (cLLG sortTC (lcG [14] (srcG (vG 4)) (nmF 14) yesB (callG F__law_ll_rest (consG (vG 3) (consG (vG 14) nilG)))))) [some (.fz (ns.map D.int)), some stD, x2, some (.int m), some (tupsD L), x5, x6, x7, x8, x9, x10, x11, x12, x13, x14] μ1 = .ok (tupsD (ownL m L)) μ1 := by
    have h1 : (lcG [14] (srcG (vG 4)) (nmF 14) yesB (callG F__law_ll_rest (consG (vG 3) (consG (vG 14) nilG)))) [some (.fz (ns.map D.int)), some stD, x2, some (.int m), some (tupsD L), x5, x6, x7, x8, x9, x10, x11, x12, x13, x14] μ1 = .ok ((L.map (others m)).map tupI) μ1 := by
      rw [lcG_map (own := [14]) tupI (fun l => tupI (others m l)) L (chk := fun _ => true) (srcG_tup (vG_at rfl)) rfl fun x _ => ⟨_, rfl, (callG_ok (consG_ok (vG_at rfl) (consG_ok (vG_at rfl) nilG_ok))).trans (e_rest m7 _ _)⟩]
      rw [List.map_map]; rfl
    refine cLG_ok (g := tupC) (xs := (ownL m L).map tupI) (μ1 := μ1) ((cLLG_ok h1).trans ?_)
    unfold sortTC
    simp only [unTups_map, if_pos (own_ne h)]
    rfl
  have t2 : (tB1 (reprNeNG (kwG F_enough_groups 2 [1, 0] (consG (vG 4) (consG (vG 3) nilG))) (cLG tupC (cLLG sortTC (lcG [14] (srcG (vG 4)) (nmF 14) yesB (callG F__law_ll_rest (consG (vG 3) (consG (vG 14) nilG)))))))) [some (.fz (ns.map D.int)), some stD, x2, some (.int m), some (tupsD L), x5, x6, x7, x8, x9, x10, x11, x12, x13, x14] μ1 = .ok false μ1 := tB1_ok (reprN_ok (kw2 rfl rfl (e_enough_groups h μ1)) own (okRepr_own h))
  have k3 := forG_all (I := (rng1G (consG (cG (.int 6)) nilG))) (set := nmF 5) (body := (seqG (setG (nmF 6) (callG F__law_ll_group (consG (vG 1) (consG (vG 3) nilG)))) (seqG (parG 7 8 (consG (callG F__law_ll_may (consG (vG 4) (consG (callG F__law_ll_rest (consG (vG 3) (consG (vG 6) nilG))) nilG))) (consG (callG F__law_ll_binds (consG (vG 3) (consG (vG 4) (consG (vG 6) nilG)))) nilG))) (seqG (iteG (notB (tB1 (callG F__law_is_truth (consG (kwG F_may_lie 3 [2, 1, 0] (consG (vG 6) (consG (vG 4) (consG (vG 3) nilG)))) (consG (callG F__law_ll_may (consG (vG 4) (consG (vG 6) nilG))) nilG))))) (retG (cG (.bl false))) nextG) (seqG (iteG (orB (notB (tB1 (callG F__law_is_truth (consG (kwG F_is_enough 3 [2, 1, 0] (consG (vG 6) (consG (vG 4) (consG (vG 3) nilG)))) (consG (vG 7) nilG))))) (andB (tB1 (vG 7)) (notB (tB1 (vG 8))))) (retG (cG (.bl false))) nextG) (seqG (iteG (notB (tB1 (callG F__law_is_truth (consG (kwG F_is_binding 3 [2, 1, 0] (consG (vG 6) (consG (vG 4) (consG (vG 3) nilG)))) (consG (vG 8) nilG))))) (retG (cG (.bl false))) nextG) (seqG (setG (nmF 9) (cLG tupC (cQG setIC (opG addD (vG 6) (callG F__law_ll_group (consG (vG 1) (consG (vG 3) nilG))))))) (iteG (orB (andB (tB1 (vG 7)) (notB (tB1 (callG F_is_enough (consG (vG 3) (consG (vG 4) (consG (vG 9) nilG))))))) (andB (tB1 (vG 8)) (notB (tB1 (callG F_is_binding (consG (vG 3) (consG (vG 4) (consG (vG 9) nilG)))))))) (retG (cG (.bl false))) nextG)))))))) (δ := [some (.fz (ns.map D.int)), some stD, x2, some (.int m), some (tupsD L), x5, x6, x7, x8, x9, x10, x11, x12, x13, x14]) (μ := μ1)
    (fun i δ ν => ∃ (x5 x6 x7 x8 x9 : Option D), δ = [some (.fz (ns.map D.int)), some stD, x2, some (.int m), some (tupsD L), x5, x6, x7, x8, x9, x10, x11, x12, x13, x14] ∧ Good rest1 (B + 10 + (6 - i) * 20) ν)
    (rng1_ok (m := 6) (consG_ok cG_ok nilG_ok) (by omega)) (fun _ _ _ _ => rfl) (by
      rintro i d δ ν hd ⟨x5, x6, x7, x8, x9, rfl, hg⟩
      obtain ⟨hi, rfl⟩ := people_get hd
      refine ⟨_, rfl, ?_⟩
      have hB : B + 10 + (6 - i) * 20 = B + 10 + (6 - (i + 1)) * 20 + 20 := by omega
      rw [hB] at hg
      obtain ⟨y6, y7, y8, y9, μ', e, hg'⟩ := lap_ok (ns := ns) (x2 := x2) (x5 := some (.int (i : Nat))) (x6 := x6) (x7 := x7) (x8 := x8) (x9 := x9) (x10 := x10) (x11 := x11) (x12 := x12) (x13 := x13) (x14 := x14) h hg
      exact ⟨_, _, e, _, _, _, _, _, rfl, hg'⟩) ⟨x5, x6, x7, x8, x9, rfl, g1.less (by omega)⟩
  obtain ⟨δ3, ν3, e3, y5, y6, y7, y8, y9, rfl, g3⟩ := k3
  -- bad
  have ga := good_snoc (x := .lst [.non, .int 0, .int 8, .bl true]) g3
  obtain ⟨d10, hd10, ν4, e4, g4⟩ := e_pickL (i := rest1.length) (B := B + 9) (ga.less (by omega)) (get_last _ _) (by simp) (by simp)
  have q4 : (allocG (lstG (consG (cG .non) (consG (cG (.int 0)) (consG (cG (.int 8)) (consG (cG (.bl true)) nilG)))))) [some (.fz (ns.map D.int)), some stD, x2, some (.int m), some (tupsD L), y5, y6, y7, y8, y9, x10, x11, x12, x13, x14] ν3 = .ok (.loc (rest1.length + 3)) (ν3 ++ [.lst [.non, .int 0, .int 8, .bl true]]) := by
    rw [← good_length g3]
    exact allocG_ok (lstG_ok (consG_ok cG_ok (consG_ok cG_ok (consG_ok cG_ok (consG_ok cG_ok nilG_ok)))) (by rw [hz]; show 4 ≤ _; omega))
  -- wrong
  obtain ⟨d11, mb, ν5, e5, g5, hd11⟩ := e_k23_bad (B := B + 8) m1 m7 g4
  -- odd
  generalize hR : rest1 ++ [Ob.lst [.non, .int 0, .int 8, .bl true]] = R at g4 g5 hd11
  have gb := good_snoc (x := .lst [.int 0]) g5
  generalize hR2 : R ++ (Ob.lst [.tup []] :: mb) = R2 at g5 gb
  have gc := good_snoc (x := .lst (odds m (R2.length + 3))) gb
  obtain ⟨d12, hd12, ν6, e6, g6⟩ := e_pickL (B := B) (gc.less (by omega)) (get_last _ _) (by unfold odds; simp) (by unfold odds; simp)
  have one : ∀ {a : AG} {xs : List D} {δ : Dn} {μ : Store}, a δ μ = .ok xs μ → xs.length ≤ 10 → tupG a δ μ = .ok (.tup xs) μ := fun h hl => tupG_ok h (by rw [hz]; omega)
  have q6 : (allocG (lstG (consG (cG .non) (consG (allocG (lstG (consG (cG (.int 0)) nilG))) (consG (tupG (consG (vG 3) nilG)) (consG (tupG (consG (cG (.int 0)) (consG (cG (.int 0)) nilG))) (consG (tupG (consG (cG (.bl true)) nilG)) (consG (tupG (consG (unG negD (cG (.int 1))) nilG)) nilG)))))))) [some (.fz (ns.map D.int)), some stD, x2, some (.int m), some (tupsD L), y5, y6, y7, y8, y9, x10, x11, x12, x13, x14] ν5 = .ok (.loc ((R2 ++ [Ob.lst [.int 0]]).length + 3)) (ν5 ++ [.lst [.int 0]] ++ [.lst (odds m (R2.length + 3))]) := by
    rw [← good_length gb, ← good_length g5]
    have ng : ∀ ν : Store, unG negD (cG (.int 1)) [some (.fz (ns.map D.int)), some stD, x2, some (.int m), some (tupsD L), y5, y6, y7, y8, y9, x10, x11, x12, x13, x14] ν = .ok (.int (-1)) ν := fun ν => rfl
    exact allocG_ok (lstG_ok (consG_ok cG_ok (consG_ok (allocG_ok (lstG_ok (consG_ok cG_ok nilG_ok) (by rw [hz]; show 1 ≤ _; omega))) (consG_ok (one (xs := [.int m]) (consG_ok (vG_at rfl) nilG_ok) (by simp)) (consG_ok (one (xs := [.int 0, .int 0]) (consG_ok cG_ok (consG_ok cG_ok nilG_ok)) (by simp)) (consG_ok (one (xs := [.bl true]) (consG_ok cG_ok nilG_ok) (by simp)) (consG_ok (one (xs := [.int (-1)]) (consG_ok (ng _) nilG_ok) (by simp)) nilG_ok)))))) (by rw [hz]; show 6 ≤ _; omega))
  have s4 : (setG (tpF 3 (consF (nmF 10) (consF (nmF 11) (consF (nmF 12) nilF)))) (tupG (consG (callG F__law_pick (consG (vG 1) (consG (allocG (lstG (consG (cG .non) (consG (cG (.int 0)) (consG (cG (.int 8)) (consG (cG (.bl true)) nilG)))))) nilG))) (consG (callG F__law_k23_bad (consG (vG 1) (consG (vG 3) nilG))) (consG (callG F__law_pick (consG (vG 1) (consG (allocG (lstG (consG (cG .non) (consG (allocG (lstG (consG (cG (.int 0)) nilG))) (consG (tupG (consG (vG 3) nilG)) (consG (tupG (consG (cG (.int 0)) (consG (cG (.int 0)) nilG))) (consG (tupG (consG (cG (.bl true)) nilG)) (consG (tupG (consG (unG negD (cG (.int 1))) nilG)) nilG)))))))) nilG))) nilG))))) [some (.fz (ns.map D.int)), some stD, x2, some (.int m), some (tupsD L), y5, y6, y7, y8, y9, x10, x11, x12, x13, x14] ν3 = .nx [some (.fz (ns.map D.int)), some stD, x2, some (.int m), some (tupsD L), y5, y6, y7, y8, y9, some d10, some d11, some d12, x13, x14] ν6 :=
    setG_ok (tupG_ok (xs := [d10, d11, d12]) (consG_ok ((callG_ok (consG_ok (vG_at rfl) (consG_ok q4 nilG_ok))).trans e4) (consG_ok ((callG_ok (consG_ok (vG_at rfl) (consG_ok (vG_at rfl) nilG_ok))).trans e5) (consG_ok ((callG_ok (consG_ok (vG_at rfl) (consG_ok q6 nilG_ok))).trans e6) nilG_ok))) (by rw [hz]; show 3 ≤ _; omega)) rfl
  have k11 : ν6[R.length + 3]? = some (.lst [.tup []]) := (good_get g6 _).trans (by rw [← hR2, List.append_assoc, List.append_assoc]; exact get_mid _ _ _)
  have k12 : ν6[R2.length + 3]? = some (.lst [.int 0]) := (good_get g6 _).trans (by rw [List.append_assoc]; exact get_mid _ _ _)
  have w1 := x_lots_many (e := d11) hd10 ν6
  have w2 := x_wrong m1 m7 k11 hd11
  have w3 := x_lots_ok h ν6
  have w4 := x_odd m7 k12 hd12
  obtain ⟨y13, e7⟩ := ask3_ok ad (ns := ns) (x2 := x2) (x5 := y5) (x6 := y6) (x7 := y7) (x8 := y8) (x9 := y9) (x13 := x13) (x14 := x14) (L := L) ⟨⟨x_may_lie1 w1, x_may_lie1 w2, x_may_lie2 w3 w4⟩, ⟨x_is_enough1 w1, x_is_enough1 w2, x_is_enough2 w3 w4⟩, ⟨x_is_binding1 w1, x_is_binding1 w2, x_is_binding2 w3 w4⟩⟩
  have e8 := ask2_ok ad (ns := ns) (L := L) (d12 := some d12) (x2 := x2) (x5 := y5) (x6 := y6) (x7 := y7) (x8 := y8) (x9 := y9) (x13 := y13) (x14 := x14) w1 w2
  exact ⟨_, _, _, _, _, _, _, _, _, _, _, ν6, (seqG_nx s0).trans ((seqG_nx (iteG_f t1)).trans ((seqG_nx (iteG_f t2)).trans ((seqG_nx e3).trans ((seqG_nx s4).trans ((seqG_nx e7).trans e8))))), g6⟩
end
theorem law_true (ad : Ad) (ns : List Int) (h63 : ns.length ≤ 63) : ∃ μ, F_law ad [.fz (ns.map D.int)] [] = .ok (.bl true) μ := by
  obtain ⟨gs, cs, hb⟩ := e_begun ns
  have key := forG_all (I := (rng1G (consG (cG (.int 4)) nilG))) (set := nmF 2) (body := (seqG (setG (tpF 2 (consF (nmF 3) (consF (nmF 4) nilF))) (callG F__law_ll_lots (consG (vG 1) nilG))) (seqG (iteG (tB1 (reprNeNG (kwG F_three_lots 2 [1, 0] (consG (vG 4) (consG (vG 3) nilG))) (callG F__law_ll_first (consG (vG 3) (consG (vG 4) nilG))))) (retG (cG (.bl false))) nextG) (seqG (iteG (tB1 (reprNeNG (kwG F_enough_groups 2 [1, 0] (consG (vG 4) (consG (vG 3) nilG))) (cLG tupC (cLLG sortTC (lcG [14] (srcG (vG 4)) (nmF 14) yesB (callG F__law_ll_rest (consG (vG 3) (consG (vG 14) nilG)))))))) (retG (cG (.bl false))) nextG) (seqG (forG (rng1G (consG (cG (.int 6)) nilG)) (nmF 5) (seqG (setG (nmF 6) (callG F__law_ll_group (consG (vG 1) (consG (vG 3) nilG)))) (seqG (parG 7 8 (consG (callG F__law_ll_may (consG (vG 4) (consG (callG F__law_ll_rest (consG (vG 3) (consG (vG 6) nilG))) nilG))) (consG (callG F__law_ll_binds (consG (vG 3) (consG (vG 4) (consG (vG 6) nilG)))) nilG))) (seqG (iteG (notB (tB1 (callG F__law_is_truth (consG (kwG F_may_lie 3 [2, 1, 0] (consG (vG 6) (consG (vG 4) (consG (vG 3) nilG)))) (consG (callG F__law_ll_may (consG (vG 4) (consG (vG 6) nilG))) nilG))))) (retG (cG (.bl false))) nextG) (seqG (iteG (orB (notB (tB1 (callG F__law_is_truth (consG (kwG F_is_enough 3 [2, 1, 0] (consG (vG 6) (consG (vG 4) (consG (vG 3) nilG)))) (consG (vG 7) nilG))))) (andB (tB1 (vG 7)) (notB (tB1 (vG 8))))) (retG (cG (.bl false))) nextG) (seqG (iteG (notB (tB1 (callG F__law_is_truth (consG (kwG F_is_binding 3 [2, 1, 0] (consG (vG 6) (consG (vG 4) (consG (vG 3) nilG)))) (consG (vG 8) nilG))))) (retG (cG (.bl false))) nextG) (seqG (setG (nmF 9) (cLG tupC (cQG setIC (opG addD (vG 6) (callG F__law_ll_group (consG (vG 1) (consG (vG 3) nilG))))))) (iteG (orB (andB (tB1 (vG 7)) (notB (tB1 (callG F_is_enough (consG (vG 3) (consG (vG 4) (consG (vG 9) nilG))))))) (andB (tB1 (vG 8)) (notB (tB1 (callG F_is_binding (consG (vG 3) (consG (vG 4) (consG (vG 9) nilG)))))))) (retG (cG (.bl false))) nextG)))))))) (seqG (setG (tpF 3 (consF (nmF 10) (consF (nmF 11) (consF (nmF 12) nilF)))) (tupG (consG (callG F__law_pick (consG (vG 1) (consG (allocG (lstG (consG (cG .non) (consG (cG (.int 0)) (consG (cG (.int 8)) (consG (cG (.bl true)) nilG)))))) nilG))) (consG (callG F__law_k23_bad (consG (vG 1) (consG (vG 3) nilG))) (consG (callG F__law_pick (consG (vG 1) (consG (allocG (lstG (consG (cG .non) (consG (allocG (lstG (consG (cG (.int 0)) nilG))) (consG (tupG (consG (vG 3) nilG)) (consG (tupG (consG (cG (.int 0)) (consG (cG (.int 0)) nilG))) (consG (tupG (consG (cG (.bl true)) nilG)) (consG (tupG (consG (unG negD (cG (.int 1))) nilG)) nilG)))))))) nilG))) nilG))))) (seqG (forG (srcL (lstG (consG (cG (.adr ad.may_lie)) (consG (cG (.adr ad.is_enough)) (consG (cG (.adr ad.is_binding)) nilG))))) (nmF 13) (seqG (iteG (orB (tB1 (opG (eqD true) (kindG wordOf (askG 13 [(ad.may_lie, X_may_lie), (ad.is_enough, X_is_enough), (ad.is_binding, X_is_binding)] (consG (vG 10) (consG (vG 11) (consG (vG 12) nilG))))) (cG (.str "many")))) (tB1 (opG (eqD true) (kindG wordOf (askG 13 [(ad.may_lie, X_may_lie), (ad.is_enough, X_is_enough), (ad.is_binding, X_is_binding)] (consG (vG 3) (consG (vG 11) (consG (vG 12) nilG))))) (cG (.str "lots"))))) (retG (cG (.bl false))) nextG) (iteG (tB1 (opG (eqD true) (kindG wordOf (askG 13 [(ad.may_lie, X_may_lie), (ad.is_enough, X_is_enough), (ad.is_binding, X_is_binding)] (consG (vG 3) (consG (vG 4) (consG (vG 12) nilG))))) (cG (.str "group")))) (retG (cG (.bl false))) nextG))) (loopG 13 fun lEA lEB => (forG (srcL (lstG (consG (cG (.adr ad.three_lots)) (consG (cG (.adr ad.enough_groups)) (consG (cG (.adr ad.crossing_votes)) (consG (cG (.adr lEA)) (consG (cG (.adr lEB)) nilG))))))) (nmF 13) (iteG (orB (tB1 (opG (eqD true) (kindG wordOf (askG 13 ([(ad.three_lots, X_three_lots), (ad.enough_groups, X_enough_groups), (ad.crossing_votes, X_crossing_votes)] ++ [(lEA, lamFn ["one", "two"] [] (callG X_is_crossing_votes (consG (vG 0) (consG (vG 1) (consG (cG .non) nilG))))), (lEB, lamFn ["one", "two", "none"] [.int 0] (callG X_is_live (consG (vG 0) (consG (vG 1) (consG (cG .non) nilG)))))]) (consG (vG 10) (consG (vG 11) nilG)))) (cG (.str "many")))) (tB1 (opG (eqD true) (kindG wordOf (askG 13 ([(ad.three_lots, X_three_lots), (ad.enough_groups, X_enough_groups), (ad.crossing_votes, X_crossing_votes)] ++ [(lEA, lamFn ["one", "two"] [] (callG X_is_crossing_votes (consG (vG 0) (consG (vG 1) (consG (cG .non) nilG))))), (lEB, lamFn ["one", "two", "none"] [.int 0] (callG X_is_live (consG (vG 0) (consG (vG 1) (consG (cG .non) nilG)))))]) (consG (vG 3) (consG (vG 11) nilG)))) (cG (.str "lots"))))) (retG (cG (.bl false))) nextG)))))))))) (δ := [some (.fz (ns.map D.int)), some stD, none, none, none, none, none, none, none, none, none, none, none, none, none]) (μ := mu gs cs 0 0 [])
    (fun i δ ν => ∃ (rest : Store) (x2 x3 x4 x5 x6 x7 x8 x9 x10 x11 x12 x13 x14 : Option D), δ = [some (.fz (ns.map D.int)), some stD, x2, x3, x4, x5, x6, x7, x8, x9, x10, x11, x12, x13, x14] ∧ Good rest ((4 - i) * 400) ν)
    (rng1_ok (m := 4) (consG_ok cG_ok nilG_ok) (by omega)) (fun _ _ _ _ => rfl) (by
      rintro i d δ ν hd ⟨rest, x2, x3, x4, x5, x6, x7, x8, x9, x10, x11, x12, x13, x14, rfl, hg⟩
      obtain ⟨hi, rfl⟩ := people_get hd
      refine ⟨_, rfl, ?_⟩
      have hB : (4 - i) * 400 = (4 - (i + 1)) * 400 + 400 := by omega
      rw [hB] at hg
      obtain ⟨rest', y3, y4, y5, y6, y7, y8, y9, y10, y11, y12, μ', e, hg'⟩ := turn_ok ad (ns := ns) (x2 := some (.int (i : Nat))) (x3 := x3) (x4 := x4) (x5 := x5) (x6 := x6) (x7 := x7) (x8 := x8) (x9 := x9) (x10 := x10) (x11 := x11) (x12 := x12) (x13 := x13) (x14 := x14) hg
      exact ⟨_, _, e, rest', _, _, _, _, _, _, _, _, _, _, _, _, _, rfl, hg'⟩) ⟨[], none, none, none, none, none, none, none, none, none, none, none, none, none, rfl, gs, cs, 0, 0, Int.le_refl _, by decide, rfl⟩
  obtain ⟨δ', ν, e2, -⟩ := key
  have s1 : (setG (nmF 1) (callG F__law_begun (consG (vG 0) nilG))) [some (.fz (ns.map D.int)), none, none, none, none, none, none, none, none, none, none, none, none, none, none] [] = .nx [some (.fz (ns.map D.int)), some stD, none, none, none, none, none, none, none, none, none, none, none, none, none] (mu gs cs 0 0 []) :=
    setG_nm ((callG_ok (consG_ok (vG_at rfl) nilG_ok)).trans hb)
  exact ⟨ν, fnG_rt (n := 15) ((seqG_nx s1).trans ((seqG_nx e2).trans (retG_ok cG_ok)))⟩
end K23

open PySem PySem.W PyProof.Rows
set_option maxRecDepth 100000 in
set_option maxHeartbeats 0 in
theorem PySem.Challenge.cw_pursespassed_k23_whole_lots_that_may_lie_holds : PySem.Challenge.rw_pursespassed_k23_whole_lots_that_may_lie.Holds := by
  w_on; o_law; k_head; (case hw => w_witness2)
  k_fill
  refine K23.walk (l := PySem.Challenge.rw_pursespassed_k23_whole_lots_that_may_lie) rfl rfl (fun w h Y => PySem.W.km_in_of Y) ?F
  case F =>
    intro w mg fa h Y KX G XX hmg
    refine' K23.all_mk K23.law_true K23.kind_true KX G hmg ?h_is_number ?h_is_within ?h_others_of ?h_all_of ?h_triples_of ?h_meeting ?h__law_begun ?h__law_blended ?h__law_caught ?h__law_is_truth ?h__law_ll_within ?h__law_ll_threes ?h__law_ll_rest ?h__law_ll_kind ?h_is_count ?h_may_all_lie ?h_three_by ?h__law_draw ?h__law_ll_may ?h__law_ll_first ?h__law_ll_binds ?h_is_group ?h_need_many ?h__law_pick ?h__law_mixed ?h__law_ll_group ?h_need_lots ?h_need_group ?h__law_ll_lots ?h__law_k23_bad ?h_may_lie ?h_is_enough ?h_three_lots ?h_is_binding ?h_crossing_votes ?h_is_crossing_votes ?h_need_family ?h_enough_groups ?h_is_live ?h_law ?b_abs ?b_all ?b_any ?b_bool ?b_enumerate ?b_int ?b_isinstance ?b_len ?b_list ?b_range ?b_repr ?b_set ?b_sorted ?b_tuple ?b_zip ?c_MOST_COUNTED ?c_MOST_NUMBER ?n_PurseError ?n_BadMany ?n_BadLots ?n_BadGroup ?n_BadFamily ?n_BadWeights ?v_BadMany ?v_BadLots ?v_BadGroup ?i_BadMany_BadMany ?i_BadMany_BadLots ?i_BadMany_BadGroup ?i_BadMany_BadFamily ?i_BadMany_BadWeights ?i_BadLots_BadMany ?i_BadLots_BadLots ?i_BadLots_BadGroup ?i_BadLots_BadFamily ?i_BadLots_BadWeights ?i_BadGroup_BadMany ?i_BadGroup_BadLots ?i_BadGroup_BadGroup ?i_BadGroup_BadFamily ?i_BadGroup_BadWeights
    (case h_is_number => refine' Sim.at_mk ?a ?l ?c ?k; (case a => k_is); (case l => k_is); (case c => k_is); (case k => k_is))
    (case h_is_within => refine' Sim.at_mk ?a ?l ?c ?k; (case a => k_is); (case l => k_is); (case c => k_is); (case k => k_is))
    (case h_others_of => refine' Sim.at_mk ?a ?l ?c ?k; (case a => k_is); (case l => k_is); (case c => k_is); (case k => k_is))
    (case h_all_of => refine' Sim.at_mk ?a ?l ?c ?k; (case a => k_is); (case l => k_is); (case c => k_is); (case k => k_is))
    (case h_triples_of => refine' Sim.at_mk ?a ?l ?c ?k; (case a => k_is); (case l => k_is); (case c => k_is); (case k => k_is))
    (case h_meeting => refine' Sim.at_mk ?a ?l ?c ?k; (case a => k_is); (case l => k_is); (case c => k_is); (case k => k_is))
    (case h__law_begun => refine' Sim.at_mk ?a ?l ?c ?k; (case a => k_is); (case l => k_is); (case c => k_is); (case k => k_is))
    (case h__law_blended => refine' Sim.at_mk ?a ?l ?c ?k; (case a => k_is); (case l => k_is); (case c => k_is); (case k => k_is))
    (case h__law_caught => refine' Sim.at_mk ?a ?l ?c ?k; (case a => k_is); (case l => k_is); (case c => k_is); (case k => k_is))
    (case h__law_is_truth => refine' Sim.at_mk ?a ?l ?c ?k; (case a => k_is); (case l => k_is); (case c => k_is); (case k => k_is))
    (case h__law_ll_within => refine' Sim.at_mk ?a ?l ?c ?k; (case a => k_is); (case l => k_is); (case c => k_is); (case k => k_is))
    (case h__law_ll_threes => refine' Sim.at_mk ?a ?l ?c ?k; (case a => k_is); (case l => k_is); (case c => k_is); (case k => k_is))
    (case h__law_ll_rest => refine' Sim.at_mk ?a ?l ?c ?k; (case a => k_is); (case l => k_is); (case c => k_is); (case k => k_is))
    (case h__law_ll_kind => refine' Sim.at_mk ?a ?l ?c ?k; (case a => k_is); (case l => k_is); (case c => k_is); (case k => k_is))
    (case h_is_count => refine' Sim.at_mk ?a ?l ?c ?k; (case a => k_is); (case l => k_is); (case c => k_is); (case k => k_is))
    (case h_may_all_lie => refine' Sim.at_mk ?a ?l ?c ?k; (case a => k_is); (case l => k_is); (case c => k_is); (case k => k_is))
    (case h_three_by => refine' Sim.at_mk ?a ?l ?c ?k; (case a => k_is); (case l => k_is); (case c => k_is); (case k => k_is))
    (case h__law_draw => refine' Sim.at_mk ?a ?l ?c ?k; (case a => k_is); (case l => k_is); (case c => k_is); (case k => k_is))
    (case h__law_ll_may => refine' Sim.at_mk ?a ?l ?c ?k; (case a => k_is); (case l => k_is); (case c => k_is); (case k => k_is))
    (case h__law_ll_first => refine' Sim.at_mk ?a ?l ?c ?k; (case a => k_is); (case l => k_is); (case c => k_is); (case k => k_is))
    (case h__law_ll_binds => refine' Sim.at_mk ?a ?l ?c ?k; (case a => k_is); (case l => k_is); (case c => k_is); (case k => k_is))
    (case h_is_group => refine' Sim.at_mk ?a ?l ?c ?k; (case a => k_is); (case l => k_is); (case c => k_is); (case k => k_is))
    (case h_need_many => refine' Sim.at_mk ?a ?l ?c ?k; (case a => k_is); (case l => k_is); (case c => k_is); (case k => k_is))
    (case h__law_pick => refine' Sim.at_mk ?a ?l ?c ?k; (case a => k_is); (case l => k_is); (case c => k_is); (case k => k_is))
    (case h__law_mixed => refine' Sim.at_mk ?a ?l ?c ?k; (case a => k_is); (case l => k_is); (case c => k_is); (case k => k_is))
    (case h__law_ll_group => refine' Sim.at_mk ?a ?l ?c ?k; (case a => k_is); (case l => k_is); (case c => k_is); (case k => k_is))
    (case h_need_lots => refine' Sim.at_mk ?a ?l ?c ?k; (case a => k_is); (case l => k_is); (case c => k_is); (case k => k_is))
    (case h_need_group => refine' Sim.at_mk ?a ?l ?c ?k; (case a => k_is); (case l => k_is); (case c => k_is); (case k => k_is))
    (case h__law_ll_lots => refine' Sim.at_mk ?a ?l ?c ?k; (case a => k_is); (case l => k_is); (case c => k_is); (case k => k_is))
    (case h__law_k23_bad => refine' Sim.at_mk ?a ?l ?c ?k; (case a => k_is); (case l => k_is); (case c => k_is); (case k => k_is))
    (case h_may_lie => refine' Sim.at_mk ?a ?l ?c ?k; (case a => k_is); (case l => k_is); (case c => k_is); (case k => k_is))
    (case h_is_enough => refine' Sim.at_mk ?a ?l ?c ?k; (case a => k_is); (case l => k_is); (case c => k_is); (case k => k_is))
    (case h_three_lots => refine' Sim.at_mk ?a ?l ?c ?k; (case a => k_is); (case l => k_is); (case c => k_is); (case k => k_is))
    (case h_is_binding => refine' Sim.at_mk ?a ?l ?c ?k; (case a => k_is); (case l => k_is); (case c => k_is); (case k => k_is))
    (case h_crossing_votes => refine' Sim.at_mk ?a ?l ?c ?k; (case a => k_is); (case l => k_is); (case c => k_is); (case k => k_is))
    (case h_is_crossing_votes => refine' Sim.at_mk ?a ?l ?c ?k; (case a => k_is); (case l => k_is); (case c => k_is); (case k => k_is))
    (case h_need_family => refine' Sim.at_mk ?a ?l ?c ?k; (case a => k_is); (case l => k_is); (case c => k_is); (case k => k_is))
    (case h_enough_groups => refine' Sim.at_mk ?a ?l ?c ?k; (case a => k_is); (case l => k_is); (case c => k_is); (case k => k_is))
    (case h_is_live => refine' Sim.at_mk ?a ?l ?c ?k; (case a => k_is); (case l => k_is); (case c => k_is); (case k => k_is))
    (case h_law => refine' Sim.atT_mk ?a ?l ?cd ?lc ?v ?d ?n ?e; (case a => k_is); (case l => k_is); (case cd => k_is); (case lc => k_is); (case v => exact rfl); (case d => kernel_rfl); (case n => kernel_rfl); (case e => exact PySem.W.km_tabs_of Y _ (by repeat (first | exact List.Mem.head _ | apply List.Mem.tail))))
    (case b_abs => k_is)
    (case b_all => k_is)
    (case b_any => k_is)
    (case b_bool => k_is)
    (case b_enumerate => k_is)
    (case b_int => k_is)
    (case b_isinstance => k_is)
    (case b_len => k_is)
    (case b_list => k_is)
    (case b_range => k_is)
    (case b_repr => k_is)
    (case b_set => k_is)
    (case b_sorted => k_is)
    (case b_tuple => k_is)
    (case b_zip => k_is)
    (case c_MOST_COUNTED => refine' Sim.const_mk ?z; (case z => k_is))
    (case c_MOST_NUMBER => refine' Sim.const_mk ?z; (case z => k_is))
    (case n_PurseError => k_is)
    (case n_BadMany => k_is)
    (case n_BadLots => k_is)
    (case n_BadGroup => k_is)
    (case n_BadFamily => k_is)
    (case n_BadWeights => k_is)
    (case v_BadMany => refine' Sim.excV_mk ?qq ?kp ?sub ?ty ?hg ?hk ?hd ?ha ?hn ?ht ?hm ?psub ?pd ?pt ?p4; (case qq => kernel_rfl); (case kp => k_is); (case sub => k_is); (case ty => k_is); (case hg => k_is); (case hk => k_is); (case hd => k_is); (case ha => k_is); (case hn => k_is); (case ht => k_is); (case hm => k_is); (case psub => k_is); (case pd => k_is); (case pt => k_is); (case p4 => k_is))
    (case v_BadLots => refine' Sim.excV_mk ?qq ?kp ?sub ?ty ?hg ?hk ?hd ?ha ?hn ?ht ?hm ?psub ?pd ?pt ?p4; (case qq => kernel_rfl); (case kp => k_is); (case sub => k_is); (case ty => k_is); (case hg => k_is); (case hk => k_is); (case hd => k_is); (case ha => k_is); (case hn => k_is); (case ht => k_is); (case hm => k_is); (case psub => k_is); (case pd => k_is); (case pt => k_is); (case p4 => k_is))
    (case v_BadGroup => refine' Sim.excV_mk ?qq ?kp ?sub ?ty ?hg ?hk ?hd ?ha ?hn ?ht ?hm ?psub ?pd ?pt ?p4; (case qq => kernel_rfl); (case kp => k_is); (case sub => k_is); (case ty => k_is); (case hg => k_is); (case hk => k_is); (case hd => k_is); (case ha => k_is); (case hn => k_is); (case ht => k_is); (case hm => k_is); (case psub => k_is); (case pd => k_is); (case pt => k_is); (case p4 => k_is))
    (case i_BadMany_BadMany => kit_is)
    (case i_BadMany_BadLots => kit_is)
    (case i_BadMany_BadGroup => kit_is)
    (case i_BadMany_BadFamily => kit_is)
    (case i_BadMany_BadWeights => kit_is)
    (case i_BadLots_BadMany => kit_is)
    (case i_BadLots_BadLots => kit_is)
    (case i_BadLots_BadGroup => kit_is)
    (case i_BadLots_BadFamily => kit_is)
    (case i_BadLots_BadWeights => kit_is)
    (case i_BadGroup_BadMany => kit_is)
    (case i_BadGroup_BadLots => kit_is)
    (case i_BadGroup_BadGroup => kit_is)
    (case i_BadGroup_BadFamily => kit_is)
    (case i_BadGroup_BadWeights => kit_is)

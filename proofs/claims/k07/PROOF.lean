import PyProof.Rows.All
import Wide.All
import OpenK.AllK
import Wide.FinOn
import PyProof.EqAt
import PyProof.EqKinds
import PyProof.TupleCall
import HandS.ForMost
import HandS.Exc
import HandS.TupAny
import HandS.TupLe
import HandS.TupLen
import HandS.TupMul
import HandS.Wide
import HandS.Deep
import KE.DataEq
import KE.DataCmp
import KE.DataAny
import KE.DataFind
import KE.DataIsa
import KE.DataMinMax
import HandS.CallSlots
import HandS.ExcOwn
import HandS.WordsExc
import HandS.NoneIn
import HandS.Zip
import HandS.Iter
import KE.GoesEnum
import HandS.IsInst
import HandS.WordsDict
import KE.SortData
import KE.KDictCopyH
import KE.KDictSum
import KE.KDictPairs
import PySem.Challenge.RW_rollpiano_k07_whole_wider_bars_and_later
set_option Elab.async false
set_option linter.all false
set_option maxRecDepth 100000
set_option autoImplicit false
/-! # DL, part 1: values by value (data), environments of slots, results; what a heap has to do with them. -/
namespace DL
open PySem PySem.Spec PyProof.Rows L2

abbrev D := PyData
abbrev Sg := L2.St
/-- how a slot holds what it holds: persistent (never written again), its own list or dict, a borrowed one (a parameter that the def may write), its own dict while a loop walks it -/
inductive Kd where | pers | own | bor | lck
  deriving DecidableEq
abbrev DEnv := List (Option (Kd × D))
structure Exc where
  cls : Str
  fields : List (Str × D)
inductive Res (α : Type) where
  | ok (a : α) (δ : DEnv)
  | ex (x : Exc) (δ : DEnv)
  | bad
/-- an expression's result: persistent data, a new list or dict, the thing in a slot -/
inductive R where | val (d : D) | new (d : D) | slot (i : Nat)
abbrev M (α : Type) := DEnv → Res α
/-- what stays the same through a law -/
structure Bas where
  prog : Program
  w : World
  K : PySem.W.Frag
abbrev _root_.L2.Cx.bas (X : Cx) : Bas := ⟨X.prog, X.w, X.K⟩
def keyD : Key → D
  | .inl i => .int i
  | .inr x => .str x

/-- an entry of a dict whose keys are tuples: the key, its own tuple's address, the value -/
abbrev Ent := List Key × Addr × V
abbrev EntU := List Key × Addr × Value
def EntR : List Ent → List EntU → Prop := Paired fun x y => x.1 = y.1 ∧ x.2.1 = y.2.1 ∧ RelV x.2.2 y.2.2
/-- such a dict, by its own object alone -/
def TDφ (K : Bas) (a : Addr) (xs : List Ent) (h : Heap) : Prop := xs.length ≤ sizeLine ∧ (a == sysModules) = false ∧ ∃ ys : List EntU, EntR xs ys ∧
  ∃ o es ep, h.get? a = some o ∧ o.ExactDict ∧ o.data = .dict es ep ∧ es.toList = ys.map (entryOfKey (tupleKind (mixKind K.prog K.w))) ∧ (ys.map (·.1)).Nodup
def TD (K : Bas) (a : Addr) (xs : List Ent) : HO := .ext (TDφ K a xs)
section
variable (K : Bas) (P : Hp)
mutual
inductive Rep : V → D → Prop
  | non : Rep .non .none
  | bl (b : Bool) : Rep (.bl b) (.bool b)
  | int (i : Int) : Rep (.int i) (.int i)
  | str (x : Str) : Rep (.str x) (.str x)
  | lst {a : Addr} {xs : List V} {ds : List D} : P a = some (.lst xs) → RepL xs ds → Rep (.ref a) (.list ds)
  | tup {a : Addr} {xs : List V} {ds : List D} : SqT K.K P a xs → RepL xs ds → Rep (.ref a) (.tuple ds)
  | dK {a : Addr} {ob : Obj} {kvs : List (Key × V)} {m : List (D × D)} : P a = some (.frz ob (.dK kvs)) → RepK kvs m → Rep (.ref a) (.dict m)
  | dT {a : Addr} {ob : Obj} {xs : List Ent} {m : List (D × D)} : P a = some (.frz ob (TD K a xs)) → xs ≠ [] → RepT xs m → Rep (.ref a) (.dict m)
inductive RepL : List V → List D → Prop
  | nil : RepL [] []
  | cons {v : V} {vs : List V} {d : D} {ds : List D} : Rep v d → RepL vs ds → RepL (v :: vs) (d :: ds)
inductive RepK : List (Key × V) → List (D × D) → Prop
  | nil : RepK [] []
  | cons {k : Key} {v : V} {kvs : List (Key × V)} {d : D} {m : List (D × D)} : Rep v d → RepK kvs m → RepK ((k, v) :: kvs) ((keyD k, d) :: m)
inductive RepT : List Ent → List (D × D) → Prop
  | nil : RepT [] []
  | cons {k : List Key} {b : Addr} {v : V} {xs : List Ent} {d : D} {m : List (D × D)} : SqT K.K P b (k.map kV) → Rep v d → RepT xs m → RepT ((k, b, v) :: xs) ((.tuple (k.map keyD), d) :: m)
end
end

/-- P' tells all that P tells -/
def Sub (P P' : Hp) : Prop := ∀ a o, P a = some o → P' a = some o
theorem Sub.refl (P : Hp) : Sub P P := fun _ _ h => h
theorem Sub.trans {P P1 P2 : Hp} (a : Sub P P1) (b : Sub P1 P2) : Sub P P2 := fun x o h => b x o (a x o h)
theorem Sub.upd {P : Hp} {a : Addr} {o : HO} (h : P a = none) : Sub P (upd P a o) := fun b x e => by
  rw [upd_ne (ne_of_none e h)]
  exact e
theorem rd_sub {P P' : Hp} {a : Addr} {u : HO} (s : Sub P P') (h : Rd P a u) : Rd P' a u := by
  rcases h with h | ⟨o, h⟩
  · exact .inl (s _ _ h)
  · exact .inr ⟨o, s _ _ h⟩
theorem sqL_sub {K : Bas} {P P' : Hp} {a : Addr} {xs : List V} (s : Sub P P') (h : SqL K.K P a xs) : SqL K.K P' a xs := h.elim (fun h => .inl (rd_sub s h)) .inr
theorem sqT_sub {K : Bas} {P P' : Hp} {a : Addr} {xs : List V} (s : Sub P P') (h : SqT K.K P a xs) : SqT K.K P' a xs := h.elim (fun h => .inl (rd_sub s h)) .inr

section
variable {K : Bas} {P P' : Hp}
theorem Rep.sub (s : Sub P P') {v : V} {d : D} (h : Rep K P v d) : Rep K P' v d :=
  Rep.rec (motive_1 := fun v d _ => Rep K P' v d) (motive_2 := fun vs ds _ => RepL K P' vs ds) (motive_3 := fun kvs m _ => RepK K P' kvs m) (motive_4 := fun kvs m _ => RepT K P' kvs m)
    .non .bl .int .str (fun h _ ih => .lst (s _ _ h) ih) (fun h _ ih => .tup (sqT_sub s h) ih) (fun h _ ih => .dK (s _ _ h) ih) (fun h n _ ih => .dT (s _ _ h) n ih)
    .nil (fun _ _ a b => .cons a b) .nil (fun _ _ a b => .cons a b) .nil (fun t _ _ a b => .cons (sqT_sub s t) a b) h
theorem RepL.sub (s : Sub P P') {vs : List V} {ds : List D} (h : RepL K P vs ds) : RepL K P' vs ds :=
  RepL.rec (motive_1 := fun v d _ => Rep K P' v d) (motive_2 := fun vs ds _ => RepL K P' vs ds) (motive_3 := fun kvs m _ => RepK K P' kvs m) (motive_4 := fun kvs m _ => RepT K P' kvs m)
    .non .bl .int .str (fun h _ ih => .lst (s _ _ h) ih) (fun h _ ih => .tup (sqT_sub s h) ih) (fun h _ ih => .dK (s _ _ h) ih) (fun h n _ ih => .dT (s _ _ h) n ih)
    .nil (fun _ _ a b => .cons a b) .nil (fun _ _ a b => .cons a b) .nil (fun t _ _ a b => .cons (sqT_sub s t) a b) h
theorem RepK.sub (s : Sub P P') {kvs : List (Key × V)} {m : List (D × D)} (h : RepK K P kvs m) : RepK K P' kvs m :=
  RepK.rec (motive_1 := fun v d _ => Rep K P' v d) (motive_2 := fun vs ds _ => RepL K P' vs ds) (motive_3 := fun kvs m _ => RepK K P' kvs m) (motive_4 := fun kvs m _ => RepT K P' kvs m)
    .non .bl .int .str (fun h _ ih => .lst (s _ _ h) ih) (fun h _ ih => .tup (sqT_sub s h) ih) (fun h _ ih => .dK (s _ _ h) ih) (fun h n _ ih => .dT (s _ _ h) n ih)
    .nil (fun _ _ a b => .cons a b) .nil (fun _ _ a b => .cons a b) .nil (fun t _ _ a b => .cons (sqT_sub s t) a b) h
theorem RepT.sub (s : Sub P P') {kvs : List Ent} {m : List (D × D)} (h : RepT K P kvs m) : RepT K P' kvs m :=
  RepT.rec (motive_1 := fun v d _ => Rep K P' v d) (motive_2 := fun vs ds _ => RepL K P' vs ds) (motive_3 := fun kvs m _ => RepK K P' kvs m) (motive_4 := fun kvs m _ => RepT K P' kvs m)
    .non .bl .int .str (fun h _ ih => .lst (s _ _ h) ih) (fun h _ ih => .tup (sqT_sub s h) ih) (fun h _ ih => .dK (s _ _ h) ih) (fun h n _ ih => .dT (s _ _ h) n ih)
    .nil (fun _ _ a b => .cons a b) .nil (fun _ _ a b => .cons a b) .nil (fun t _ _ a b => .cons (sqT_sub s t) a b) h

theorem RepL.length : ∀ {vs : List V} {ds : List D}, RepL K P vs ds → vs.length = ds.length
  | _, _, .nil => rfl
  | _, _, .cons _ t => by rw [List.length_cons, List.length_cons, RepL.length t]
theorem RepL.append : ∀ {vs ws : List V} {ds es : List D}, RepL K P vs ds → RepL K P ws es → RepL K P (vs ++ ws) (ds ++ es)
  | _, _, _, _, .nil, h => h
  | _, _, _, _, .cons a t, h => .cons a (RepL.append t h)
theorem RepL.get : ∀ {vs : List V} {ds : List D} {i : Nat} {v : V}, RepL K P vs ds → vs[i]? = some v → ∃ d, ds[i]? = some d ∧ Rep K P v d
  | _, _, _, _, .nil, e => by simp at e
  | _, _, 0, _, .cons a _, e => by simp at e; subst e; exact ⟨_, rfl, a⟩
  | _, _, i + 1, _, .cons _ t, e => by
    obtain ⟨d, h1, h2⟩ := RepL.get (i := i) t (by simpa using e)
    exact ⟨d, by simpa using h1, h2⟩
theorem RepL.get' : ∀ {vs : List V} {ds : List D} {i : Nat} {d : D}, RepL K P vs ds → ds[i]? = some d → ∃ v, vs[i]? = some v ∧ Rep K P v d
  | _, _, _, _, .nil, e => by simp at e
  | _, _, 0, _, .cons a _, e => by simp at e; subst e; exact ⟨_, rfl, a⟩
  | _, _, i + 1, _, .cons _ t, e => by
    obtain ⟨d, h1, h2⟩ := RepL.get' (i := i) t (by simpa using e)
    exact ⟨d, by simpa using h1, h2⟩
theorem RepL.set {v : V} {d : D} (r : Rep K P v d) : ∀ {vs : List V} {ds : List D} (i : Nat), RepL K P vs ds → RepL K P (vs.set i v) (ds.set i d)
  | _, _, _, .nil => .nil
  | _, _, 0, .cons _ t => .cons r t
  | _, _, i + 1, .cons q t => .cons q (RepL.set r i t)
theorem RepL.take : ∀ {vs : List V} {ds : List D} (n : Nat), RepL K P vs ds → RepL K P (vs.take n) (ds.take n)
  | _, _, 0, _ => .nil
  | _, _, _ + 1, .nil => .nil
  | _, _, n + 1, .cons r t => .cons r (RepL.take n t)
theorem RepL.drop : ∀ {vs : List V} {ds : List D} (n : Nat), RepL K P vs ds → RepL K P (vs.drop n) (ds.drop n)
  | _, _, 0, r => r
  | _, _, _ + 1, .nil => .nil
  | _, _, n + 1, .cons _ t => RepL.drop n t
theorem RepL.reverse : ∀ {vs : List V} {ds : List D}, RepL K P vs ds → RepL K P vs.reverse ds.reverse
  | _, _, .nil => .nil
  | _, _, .cons r t => by
    rw [List.reverse_cons, List.reverse_cons]
    exact RepL.append (RepL.reverse t) (.cons r .nil)
theorem RepL.of_get : ∀ {vs : List V} {ds : List D}, vs.length = ds.length → (∀ (i : Nat) (v : V) (d : D), vs[i]? = some v → ds[i]? = some d → Rep K P v d) → RepL K P vs ds
  | [], [], _, _ => .nil
  | v :: vs, d :: ds, e, h => .cons (h 0 v d rfl rfl) (RepL.of_get (by simpa using e) fun i w c a b => h (i + 1) w c (by simpa using a) (by simpa using b))
  | [], _ :: _, e, _ => by simp at e
  | _ :: _, [], e, _ => by simp at e
theorem RepK.length : ∀ {kvs : List (Key × V)} {m : List (D × D)}, RepK K P kvs m → kvs.length = m.length
  | _, _, .nil => rfl
  | _, _, .cons _ t => by rw [List.length_cons, List.length_cons, RepK.length t]
theorem RepT.length : ∀ {kvs : List Ent} {m : List (D × D)}, RepT K P kvs m → kvs.length = m.length
  | _, _, .nil => rfl
  | _, _, .cons _ _ t => by rw [List.length_cons, List.length_cons, RepT.length t]
end

/-- a list or dict of one's own at a -/
inductive OwnR (K : Bas) (P H : Hp) (a : Addr) : D → Prop
  | lst {vs : List V} {ds : List D} : H a = some (.lst vs) → RepL K P vs ds → OwnR K P H a (.list ds)
  | dK {kvs : List (Key × V)} {m : List (D × D)} : H a = some (.dK kvs) → RepK K P kvs m → OwnR K P H a (.dict m)
  | dT {xs : List Ent} {m : List (D × D)} : H a = some (TD K a xs) → xs ≠ [] → RepT K P xs m → OwnR K P H a (.dict m)
/-- .. locked -/
inductive LckR (K : Bas) (P H : Hp) (a : Addr) : D → Prop
  | dK {ob : Obj} {kvs : List (Key × V)} {m : List (D × D)} : H a = some (.frz ob (.dK kvs)) → RepK K P kvs m → LckR K P H a (.dict m)
  | dT {ob : Obj} {xs : List Ent} {m : List (D × D)} : H a = some (.frz ob (TD K a xs)) → xs ≠ [] → RepT K P xs m → LckR K P H a (.dict m)
theorem OwnR.step {K : Bas} {P P' H H' : Hp} {a : Addr} {d : D} (s : Sub P P') (k : ∀ o, H a = some o → H' a = some o) (h : OwnR K P H a d) : OwnR K P' H' a d := by
  cases h with
  | lst e r => exact .lst (k _ e) (r.sub s)
  | dK e r => exact .dK (k _ e) (r.sub s)
  | dT e n r => exact .dT (k _ e) n (r.sub s)
theorem LckR.step {K : Bas} {P P' H H' : Hp} {a : Addr} {d : D} (s : Sub P P') (k : ∀ o, H a = some o → H' a = some o) (h : LckR K P H a d) : LckR K P' H' a d := by
  cases h with
  | dK e r => exact .dK (k _ e) (r.sub s)
  | dT e n r => exact .dT (k _ e) n (r.sub s)
theorem OwnR.there {K : Bas} {P H : Hp} {a : Addr} {d : D} (h : OwnR K P H a d) : ∃ o, H a = some o := by
  cases h with
  | lst e _ => exact ⟨_, e⟩
  | dK e _ => exact ⟨_, e⟩
  | dT e _ _ => exact ⟨_, e⟩
theorem LckR.there {K : Bas} {P H : Hp} {a : Addr} {d : D} (h : LckR K P H a d) : ∃ o, H a = some o := by
  cases h with
  | dK e _ => exact ⟨_, e⟩
  | dT e _ _ => exact ⟨_, e⟩

def SlotR (K : Bas) (P H : Hp) (k : Kd) (v : V) (d : D) : Prop := match k with
  | .pers => Rep K P v d
  | .own | .bor => ∃ a, v = .ref a ∧ P a = none ∧ OwnR K P H a d
  | .lck => ∃ a, v = .ref a ∧ P a = none ∧ LckR K P H a d
/-- slot i of δ is of the kind k -/
def At (δ : DEnv) (i : Nat) (k : Kd) (d : D) : Prop := δ[i]? = some (some (k, d))
/-- a is in a slot of the kind k -/
def Adr (σ : Sg) (δ : DEnv) (k : Kd) (a : Addr) : Prop := ∃ i d, At δ i k d ∧ σ[i]? = some (some (.ref a))
/-- the slots hold what the environment says -/
structure SR (K : Bas) (P H : Hp) (σ : Sg) (δ : DEnv) : Prop where
  len : σ.length = δ.length
  ph : Sub P H
  sl : ∀ i k d, At δ i k d → ∃ v, σ[i]? = some (some v) ∧ SlotR K P H k v d
  inj : ∀ i j k l d e a, At δ i k d → At δ j l e → k ≠ .pers → l ≠ .pers → σ[i]? = some (some (.ref a)) → σ[j]? = some (some (.ref a)) → i = j
/-- from one state to a later one of the same def -/
structure Stp (σ : Sg) (δ : DEnv) (P H : Hp) (σ' : Sg) (δ' : DEnv) (P' H' : Hp) : Prop where
  keep : ∀ b o, H b = some o → ¬ Adr σ δ .own b → ¬ Adr σ δ .bor b → H' b = some o
  pkeep : ∀ b o, H b = some o → ¬ Adr σ δ .own b → ¬ Adr σ δ .bor b → P' b = P b
  live : ∀ b o, H b = some o → ∃ o', H' b = some o'
  sub : Sub P P'
  own : ∀ b, Adr σ' δ' .own b → Adr σ δ .own b ∨ H b = none
  bor : ∀ i d, At δ i .bor d → (∃ d', At δ' i .bor d') ∧ σ'[i]? = σ[i]?
  borB : ∀ i d, At δ' i .bor d → ∃ d', At δ i .bor d'
theorem Stp.refl (σ : Sg) (δ : DEnv) (P H : Hp) : Stp σ δ P H σ δ P H :=
  ⟨fun _ _ h _ _ => h, fun _ _ _ _ _ => rfl, fun _ o h => ⟨o, h⟩, Sub.refl _, fun _ h => .inl h, fun _ d h => ⟨⟨d, h⟩, rfl⟩, fun _ d h => ⟨d, h⟩⟩
theorem Stp.trans {σ σ1 σ2 : Sg} {δ δ1 δ2 : DEnv} {P H P1 H1 P2 H2 : Hp} (a : Stp σ δ P H σ1 δ1 P1 H1) (b : Stp σ1 δ1 P1 H1 σ2 δ2 P2 H2) : Stp σ δ P H σ2 δ2 P2 H2 := by
  have nb : ∀ c o, H c = some o → ¬ Adr σ δ .own c → ¬ Adr σ δ .bor c → ¬ Adr σ1 δ1 .own c ∧ ¬ Adr σ1 δ1 .bor c := fun c o e n m => by
    refine ⟨fun h => ?_, fun ⟨i, d, h, q⟩ => ?_⟩
    · rcases a.own c h with z | z
      · exact n z
      · rw [e] at z; cases z
    · obtain ⟨d', h'⟩ := a.borB i d h
      obtain ⟨_, e2⟩ := a.bor i d' h'
      rw [e2] at q
      exact m ⟨i, d', h', q⟩
  refine ⟨fun c o e n m => ?_, fun c o e n m => ?_, fun c o e => ?_, a.sub.trans b.sub, fun c h => ?_, fun i d h => ?_, fun i d h => ?_⟩
  · exact b.keep c o (a.keep c o e n m) (nb c o e n m).1 (nb c o e n m).2
  · rw [b.pkeep c o (a.keep c o e n m) (nb c o e n m).1 (nb c o e n m).2, a.pkeep c o e n m]
  · obtain ⟨o1, e1⟩ := a.live c o e
    exact b.live c o1 e1
  · rcases b.own c h with z | z
    · exact a.own c z
    · cases e : H c with
      | none => exact .inr rfl
      | some o =>
        obtain ⟨o1, e1⟩ := a.live c o e
        rw [z] at e1; cases e1
  · obtain ⟨⟨d1, h1⟩, e1⟩ := a.bor i d h
    obtain ⟨h2, e2⟩ := b.bor i d1 h1
    exact ⟨h2, e2.trans e1⟩
  · obtain ⟨d1, h1⟩ := b.borB i d h
    exact a.borB i d1 h1
/-- what an expression's value has to do with its result; H0: the heap ahead of it -/
def RRep (K : Bas) (H0 P H : Hp) (σ : Sg) (δ : DEnv) (v : V) : R → Prop
  | .val d => Rep K P v d
  | .new d => ∃ a, v = .ref a ∧ H0 a = none ∧ P a = none ∧ ¬ Adr σ δ .own a ∧ ¬ Adr σ δ .bor a ∧ OwnR K P H a d
  | .slot i => ∃ k d, At δ i k d ∧ k ≠ .pers ∧ σ[i]? = some (some v)
/-- what is read: persistent, one's own, or locked -/
def DR (K : Bas) (P H : Hp) (v : V) (d : D) : Prop := Rep K P v d ∨ ∃ a, v = .ref a ∧ (OwnR K P H a d ∨ LckR K P H a d)
/-- an exception of the text -/
def ExR (K : Bas) (mg : Str → Option Value) (P H : Hp) (cls : Value) (d : Option Addr) (x : Exc) : Prop :=
  ∃ C, mg x.cls = some (.ref C) ∧ cls = .ref C ∧ ((x.fields = [] ∧ d = none) ∨ ∃ f fd dd v, x.fields = [(f, fd)] ∧ d = some dd ∧ H dd = some (.xd [(f, v)]) ∧ Rep K P v fd)
/-- what may be known of an operand at last -/
def dat (δ : DEnv) : R → Option D
  | .val d => some d
  | .new d => some d
  | .slot i => match δ[i]? with | some (some (_, d)) => some d | _ => none

section
variable {K : Bas} {P H P1 H1 : Hp} {σ : Sg} {δ δ1 : DEnv}
theorem Stp.rep {σ1 : Sg} (s : Stp σ δ P H σ1 δ1 P1 H1) {v : V} {d : D} (h : Rep K P v d) : Rep K P1 v d := h.sub s.sub
/-- a result behind a further step -/
theorem RRep.step {H0 : Hp} {v : V} {r : R} (s : Stp σ δ P H σ δ1 P1 H1) (h : RRep K H0 P H σ δ v r) (hs : ∀ i, r ≠ .slot i) : RRep K H0 P1 H1 σ δ1 v r := by
  cases r with
  | val d => exact s.rep h
  | new d =>
    obtain ⟨a, rfl, h0, hp, n, m, o⟩ := h
    obtain ⟨ob, e⟩ := o.there
    refine ⟨a, rfl, h0, ?_, fun z => ?_, fun ⟨i, d, z, q⟩ => ?_, o.step s.sub fun o' e' => s.keep a o' e' n m⟩
    · rw [s.pkeep a ob e n m]; exact hp
    · rcases s.own a z with z | z
      · exact n z
      · rw [e] at z; cases z
    · obtain ⟨d', h'⟩ := s.borB i d z
      exact m ⟨i, d', h', q⟩
  | slot i => exact absurd rfl (hs i)
/-- what an operand reads at a later state -/
theorem RRep.dr {H0 : Hp} {v : V} {r : R} {d : D} (h : RRep K H0 P H σ δ v r) (s : Stp σ δ P H σ δ1 P1 H1) (S1 : SR K P1 H1 σ δ1) (hd : dat δ1 r = some d) : DR K P1 H1 v d := by
  cases r with
  | val e => cases hd; exact .inl (s.rep h)
  | new e =>
    cases hd
    obtain ⟨a, rfl, _, _, _, _, o⟩ := h.step s (fun i z => nomatch z)
    exact .inr ⟨a, rfl, .inl o⟩
  | slot i =>
    obtain ⟨k, e, _, _, q⟩ := h
    dsimp only [dat] at hd
    have : ∃ k', At δ1 i k' d := by
      cases z : δ1[i]? with
      | none => rw [z] at hd; cases hd
      | some o =>
        rw [z] at hd
        cases o with
        | none => cases hd
        | some p => obtain ⟨k', e'⟩ := p; cases hd; exact ⟨k', z⟩
    obtain ⟨k', z⟩ := this
    obtain ⟨w, e2, sl⟩ := S1.sl i k' d z
    rw [q] at e2; cases e2
    cases k' with
    | pers => exact .inl sl
    | own => obtain ⟨a, rfl, _, o⟩ := sl; exact .inr ⟨a, rfl, .inl o⟩
    | bor => obtain ⟨a, rfl, _, o⟩ := sl; exact .inr ⟨a, rfl, .inl o⟩
    | lck => obtain ⟨a, rfl, _, o⟩ := sl; exact .inr ⟨a, rfl, .inr o⟩
end
end DL

/-! # DL, part 2: a reading by data; operands, tests, arguments. -/
namespace DL
open PySem PySem.Spec PyProof.Rows L2

theorem PE.mono {X : Cx} {e : Expr} {t t' : TE} (h : PE X e t) (k : ∀ σ H Q, t' σ H Q → t σ H Q) : PE X e t' := ⟨fun pins s σ H Q I hw => h.run pins s σ H Q I (k σ H Q hw)⟩
theorem PT.mono {X : Cx} {e : Expr} {t t' : TT} (h : PT X e t) (k : ∀ σ H Q, t' σ H Q → t σ H Q) : PT X e t' := ⟨fun pins s σ H Q I hw => h.run pins s σ H Q I (k σ H Q hw)⟩
theorem PW.mono {X : Cx} {e : Expr} {t t' : TT} (h : PW X e t) (k : ∀ σ H Q, t' σ H Q → t σ H Q) : PW X e t' := ⟨fun wh pins s σ H Q I hw => h.run wh pins s σ H Q I (k σ H Q hw)⟩
theorem PA.mono {X : Cx} {e : List Expr} {t t' : TA} (h : PA X e t) (k : ∀ σ H Q, t' σ H Q → t σ H Q) : PA X e t' := ⟨fun pos pins s σ H Q I hw => h.run pos pins s σ H Q I (k σ H Q hw)⟩
theorem PS.mono {X : Cx} {e : Stmt} {t t' : TS} (h : PS X e t) (k : ∀ D σ H, t' D σ H → t D σ H) : PS X e t' := ⟨fun pins s σ H D I hw => h.run pins s σ H D I (k D σ H hw)⟩
theorem PSs.mono {X : Cx} {e : List Stmt} {t t' : TS} (h : PSs X e t) (k : ∀ D σ H, t' D σ H → t D σ H) : PSs X e t' := ⟨fun pins s σ H D I hw => h.run pins s σ H D I (k D σ H hw)⟩

def pureM {α : Type} (a : α) : M α := fun δ => .ok a δ
def bindM {α β : Type} (f : M α) (g : α → M β) : M β := fun δ => match f δ with
  | .ok a δ' => g a δ'
  | .ex x δ' => .ex x δ'
  | .bad => .bad
def badM {α : Type} : M α := fun _ => .bad
theorem bindM_assoc {α β γ : Type} (f : M α) (g : α → M β) (h : β → M γ) : bindM (bindM f g) h = bindM f fun a => bindM (g a) h := by
  funext δ
  unfold bindM
  cases f δ <;> rfl
theorem bindM_pure {α β : Type} (a : α) (g : α → M β) : bindM (pureM a) g = g a := rfl

/-- how a value and a result belong together: the heap ahead, then P, H, the slots, the environment behind -/
abbrev Rl (β α : Type) := Hp → Hp → Hp → Sg → DEnv → β → α → Prop
/-- what is asked of a result at a state -/
def gK {α β : Type} (K : Bas) (mg : Str → Option Value) (W : WX) (rel : Rl β α) (r : Res α) (σ : Sg) (δ : DEnv) (P H : Hp) (Q : β → Hp → Prop) : Prop := match r with
  | .ok a δ' => ∀ v H' P', SR K P' H' σ δ' → Stp σ δ P H σ δ' P' H' → rel H P' H' σ δ' v a → Q v H'
  | .ex x δ' => ∀ cls d H' P', SR K P' H' σ δ' → Stp σ δ P H σ δ' P' H' → ExR K mg P' H' cls d x → W cls d σ H'
  | .bad => False
def gD {α β : Type} (K : Bas) (mg : Str → Option Value) (W : WX) (rel : Rl β α) (f : M α) (σ : Sg) (H : Hp) (Q : β → Hp → Prop) : Prop :=
  ∃ P δ, SR K P H σ δ ∧ gK K mg W rel (f δ) σ δ P H Q
def rE (K : Bas) : Rl V R := fun H0 P H σ δ v r => RRep K H0 P H σ δ v r
def rB : Rl Bool Bool := fun _ _ _ _ _ b c => b = c
def rP (K : Bas) : Rl V D := fun _ P _ _ _ v d => Rep K P v d
def rPs (K : Bas) : Rl (List V) (List D) := fun _ P _ _ _ vs ds => RepL K P vs ds
abbrev eD (K : Bas) (mg : Str → Option Value) (W : WX) (f : M R) : TE := gD K mg W (rE K) f
abbrev pD (K : Bas) (mg : Str → Option Value) (W : WX) (f : M D) : TE := gD K mg W (rP K) f
abbrev bD (K : Bas) (mg : Str → Option Value) (W : WX) (f : M Bool) : TT := gD K mg W rB f
abbrev aD (K : Bas) (mg : Str → Option Value) (W : WX) (f : M (List D)) : TA := gD K mg W (rPs K) f

section
variable {K : Bas} {mg : Str → Option Value} {W : WX} {σ : Sg} {δ δ1 : DEnv} {P H P1 H1 : Hp}
theorem live_back {σ1 : Sg} (s : Stp σ δ P H σ1 δ1 P1 H1) {a : Addr} (h : H1 a = none) : H a = none := by
  cases e : H a with
  | none => rfl
  | some o =>
    obtain ⟨o', e'⟩ := s.live a o e
    rw [h] at e'; cases e'
/-- a relation that a fresher heap ahead leaves -/
def Rl.Up {β α : Type} (rel : Rl β α) : Prop := ∀ H0 H1 P H σ δ v a, (∀ b, H1 b = none → H0 b = none) → rel H1 P H σ δ v a → rel H0 P H σ δ v a
theorem rE_up : (rE K).Up := fun H0 H1 P H σ δ v r k h => by
  cases r with
  | val d => exact h
  | new d => obtain ⟨a, e, h0, r⟩ := h; exact ⟨a, e, k a h0, r⟩
  | slot i => exact h
theorem rB_up : rB.Up := fun _ _ _ _ _ _ _ _ _ h => h
theorem rP_up : (rP K).Up := fun _ _ _ _ _ _ _ _ _ h => h
theorem rPs_up : (rPs K).Up := fun _ _ _ _ _ _ _ _ _ h => h
/-- first f, then g -/
theorem gK.bind {α β γ : Type} {rel : Rl γ β} (up : rel.Up) {f : M α} {g : α → M β} {Q : γ → Hp → Prop} (h : gK K mg W rel (bindM f g δ) σ δ P H Q) {β' : Type} {rel1 : Rl β' α} {Q1 : β' → Hp → Prop}
    (k : ∀ a δ1 v H1 P1, f δ = .ok a δ1 → SR K P1 H1 σ δ1 → Stp σ δ P H σ δ1 P1 H1 → rel1 H P1 H1 σ δ1 v a → gK K mg W rel (g a δ1) σ δ1 P1 H1 Q → Q1 v H1) : gK K mg W rel1 (f δ) σ δ P H Q1 := by
  unfold bindM at h
  cases e : f δ with
  | ok a δ1 =>
    intro v H1 P1 S1 s1 r1
    refine k a δ1 v H1 P1 e S1 s1 r1 ?_
    rw [e] at h
    change gK K mg W rel (g a δ1) σ δ P H Q at h
    cases e2 : g a δ1 with
    | ok b δ2 => rw [e2] at h; exact fun w H2 P2 S2 s2 r2 => h w H2 P2 S2 (s1.trans s2) (up _ _ _ _ _ _ _ _ (fun b hb => live_back s1 hb) r2)
    | ex x δ2 => rw [e2] at h; exact fun cls d H2 P2 S2 s2 r2 => h cls d H2 P2 S2 (s1.trans s2) r2
    | bad => rw [e2] at h; exact h
  | ex x δ1 => rw [e] at h; exact h
  | bad => rw [e] at h; exact h
theorem gD.bind {α β γ : Type} {rel : Rl γ β} (up : rel.Up) {f : M α} {g : α → M β} {Q : γ → Hp → Prop} (h : gD K mg W rel (bindM f g) σ H Q) {β' : Type} {rel1 : Rl β' α} {Q1 : β' → Hp → Prop}
    (k : ∀ a δ1 v H1 P1 δ P, f δ = .ok a δ1 → SR K P H σ δ → SR K P1 H1 σ δ1 → Stp σ δ P H σ δ1 P1 H1 → rel1 H P1 H1 σ δ1 v a → gK K mg W rel (g a δ1) σ δ1 P1 H1 Q → Q1 v H1) : gD K mg W rel1 f σ H Q1 := by
  obtain ⟨P, δ, S, h⟩ := h
  exact ⟨P, δ, S, gK.bind up h fun a δ1 v H1 P1 e S1 s1 r1 q => k a δ1 v H1 P1 δ P e S S1 s1 r1 q⟩
/-- at the end -/
theorem gK.pure {α β : Type} {rel : Rl β α} {a : α} {Q : β → Hp → Prop} {v : β} (h : gK K mg W rel (.ok a δ) σ δ P H Q) (S : SR K P H σ δ) (r : rel H P H σ δ v a) : Q v H := h v H P S (Stp.refl _ _ _ _) r
theorem gK.mono {α β : Type} {rel : Rl β α} {r : Res α} {Q Q' : β → Hp → Prop} (h : gK K mg W rel r σ δ P H Q) (k : ∀ v H, Q v H → Q' v H) : gK K mg W rel r σ δ P H Q' := by
  cases r with
  | ok a δ1 => exact fun v H1 P1 S1 s1 r1 => k _ _ (h v H1 P1 S1 s1 r1)
  | ex x δ1 => exact h
  | bad => exact h

/-- nothing but new objects -/
structure Ext (P H P' H' : Hp) : Prop where
  keep : Sub H H'
  pkeep : ∀ b o, H b = some o → P' b = P b
  sub : Sub P P'
  ph : Sub P' H'
theorem Ext.refl {P H : Hp} (h : Sub P H) : Ext P H P H := ⟨Sub.refl _, fun _ _ _ => rfl, Sub.refl _, h⟩
theorem Ext.trans {P H P1 H1 P2 H2 : Hp} (a : Ext P H P1 H1) (b : Ext P1 H1 P2 H2) : Ext P H P2 H2 := ⟨a.keep.trans b.keep, fun c o e => (b.pkeep c o (a.keep c o e)).trans (a.pkeep c o e), a.sub.trans b.sub, b.ph⟩
/-- a new object, persistent -/
theorem Ext.newP {P H : Hp} {a : Addr} {o : HO} (h : Sub P H) (n : H a = none) : Ext P H (upd P a o) (upd H a o) := by
  have np : P a = none := by
    cases e : P a with
    | none => rfl
    | some u => rw [h a u e] at n; cases n
  refine ⟨Sub.upd n, fun b o e => by rw [upd_ne (ne_of_none e n)], Sub.upd np, fun b u e => ?_⟩
  by_cases hb : b = a
  · subst hb; rw [upd_same] at e ⊢; exact e
  · rw [upd_ne hb] at e ⊢; exact h b u e
/-- a new object of one's own -/
theorem Ext.newO {P H : Hp} {a : Addr} {o : HO} (h : Sub P H) (n : H a = none) : Ext P H P (upd H a o) := by
  refine ⟨Sub.upd n, fun _ _ _ => rfl, Sub.refl _, fun b u e => ?_⟩
  have hb : b ≠ a := fun z => by
    subst z
    rw [h b u e] at n; cases n
  rw [upd_ne hb]; exact h b u e
theorem SlotR.ext (x : Ext P H P1 H1) {k : Kd} {v : V} {d : D} (h : SlotR K P H k v d) : SlotR K P1 H1 k v d := by
  cases k with
  | pers => exact Rep.sub x.sub h
  | own => obtain ⟨a, e, n, o⟩ := h; obtain ⟨ob, eo⟩ := o.there; exact ⟨a, e, by rw [x.pkeep a ob eo]; exact n, o.step x.sub fun o e => x.keep a o e⟩
  | bor => obtain ⟨a, e, n, o⟩ := h; obtain ⟨ob, eo⟩ := o.there; exact ⟨a, e, by rw [x.pkeep a ob eo]; exact n, o.step x.sub fun o e => x.keep a o e⟩
  | lck => obtain ⟨a, e, n, o⟩ := h; obtain ⟨ob, eo⟩ := o.there; exact ⟨a, e, by rw [x.pkeep a ob eo]; exact n, o.step x.sub fun o e => x.keep a o e⟩
theorem SR.ext (S : SR K P H σ δ) (x : Ext P H P1 H1) : SR K P1 H1 σ δ :=
  ⟨S.len, x.ph, fun i k d h => let ⟨v, e, s⟩ := S.sl i k d h; ⟨v, e, SlotR.ext x s⟩, S.inj⟩
theorem Ext.stp (x : Ext P H P1 H1) : Stp σ δ P H σ δ P1 H1 :=
  ⟨fun b o e _ _ => x.keep b o e, fun b o e _ _ => x.pkeep b o e, fun b o e => ⟨o, x.keep b o e⟩, x.sub, fun b h => .inl h, fun i d h => ⟨⟨d, h⟩, rfl⟩, fun i d h => ⟨d, h⟩⟩
/-- the address of an own or borrowed slot is there -/
theorem SR.adr (S : SR K P H σ δ) {k : Kd} (hk : k ≠ .pers) {a : Addr} (h : Adr σ δ k a) : (∃ o, H a = some o) ∧ P a = none := by
  obtain ⟨i, d, h, e⟩ := h
  obtain ⟨v, e2, s⟩ := S.sl i k d h
  rw [e] at e2; cases e2
  cases k with
  | pers => exact absurd rfl hk
  | own => obtain ⟨b, e3, n, o⟩ := s; cases e3; exact ⟨o.there, n⟩
  | bor => obtain ⟨b, e3, n, o⟩ := s; cases e3; exact ⟨o.there, n⟩
  | lck => obtain ⟨b, e3, n, o⟩ := s; cases e3; exact ⟨o.there, n⟩
theorem SR.fresh (S : SR K P H σ δ) {a : Addr} (n : H a = none) {k : Kd} (hk : k ≠ .pers) : ¬ Adr σ δ k a := fun h => by
  obtain ⟨⟨o, e⟩, _⟩ := S.adr hk h
  rw [n] at e; cases e
theorem Sub.none {P H : Hp} (h : Sub P H) {a : Addr} (n : H a = none) : P a = none := by
  cases e : P a with
  | none => rfl
  | some u => rw [h a u e] at n; cases n
end

/-! ### operations on data -/
/-- what an operation gives: persistent data, or a new thing -/
def resR (fr : Bool) (d : D) : R := if fr then .new d else .val d
/-- an operation's value -/
def OpV (K : Bas) (P H : Hp) (o : Option (Bool × D)) (Q : VK) : Prop := match o with
  | some (false, d) => ∀ v P' H', Ext P H P' H' → Rep K P' v d → Q v H'
  | some (true, d) => ∀ a P' H', Ext P H P' H' → H a = none → P' a = none → OwnR K P' H' a d → Q (.ref a) H'
  | none => False
def rG (K : Bas) (g : D → D → Option (Bool × D)) : R2 := fun x y H Q => ∃ P d e, Sub P H ∧ DR K P H x d ∧ DR K P H y e ∧ OpV K P H (g d e) Q
def rU1 (K : Bas) (g : D → Option (Bool × D)) : V → Hp → VK → Prop := fun x H Q => ∃ P d, Sub P H ∧ DR K P H x d ∧ OpV K P H (g d) Q
inductive DRs (K : Bas) (P H : Hp) : List V → List D → Prop
  | nil : DRs K P H [] []
  | cons {v : V} {vs : List V} {d : D} {ds : List D} : DR K P H v d → DRs K P H vs ds → DRs K P H (v :: vs) (d :: ds)
def cG (K : Bas) (g : List D → Option (Bool × D)) : List V → Hp → VK → Prop := fun xs H Q => ∃ P ds, Sub P H ∧ DRs K P H xs ds ∧ OpV K P H (g ds) Q

def optR (o : Option (Bool × D)) : M R := match o with
  | some (fr, d) => pureM (resR fr d)
  | none => badM
def datM (r : R) : M D := fun δ => match dat δ r with
  | some d => .ok d δ
  | none => .bad
def datsM : List R → M (List D)
  | [] => pureM []
  | r :: rs => bindM (datM r) fun d => bindM (datsM rs) fun ds => pureM (d :: ds)
def un1 (g : D → Option (Bool × D)) (fa : M R) : M R := bindM fa fun r => bindM (datM r) fun d => optR (g d)
def bin2 (g : D → D → Option (Bool × D)) (fa fb : M R) : M R := bindM fa fun r => bindM fb fun q => bindM (datM r) fun d => bindM (datM q) fun e => optR (g d e)

section
variable {K : Bas} {mg : Str → Option Value} {W : WX} {σ : Sg} {δ δ1 : DEnv} {P H P1 H1 : Hp}
theorem gK.dat {β γ : Type} {rel : Rl γ β} {r : R} {g : D → M β} {Q : γ → Hp → Prop} (h : gK K mg W rel (bindM (datM r) g δ) σ δ P H Q) : ∃ d, dat δ r = some d ∧ gK K mg W rel (g d δ) σ δ P H Q := by
  unfold bindM datM at h
  cases e : DL.dat δ r with
  | none => rw [e] at h; exact h.elim
  | some d => rw [e] at h; exact ⟨d, rfl, h⟩
theorem gK.dats {β γ : Type} {rel : Rl γ β} : ∀ {rs : List R} {g : List D → M β} {Q : γ → Hp → Prop}, gK K mg W rel (bindM (datsM rs) g δ) σ δ P H Q → ∃ ds, datsM rs δ = .ok ds δ ∧ gK K mg W rel (g ds δ) σ δ P H Q
  | [], g, Q, h => ⟨[], rfl, h⟩
  | r :: rs, g, Q, h => by
    have h' : gK K mg W rel (bindM (datM r) (fun d => bindM (datsM rs) fun ds => g (d :: ds)) δ) σ δ P H Q := by
      have e : bindM (datsM (r :: rs)) g δ = bindM (datM r) (fun d => bindM (datsM rs) fun ds => g (d :: ds)) δ := by
        rw [show datsM (r :: rs) = bindM (datM r) (fun d => bindM (datsM rs) fun ds => pureM (d :: ds)) from rfl, bindM_assoc]
        simp only [bindM_assoc, bindM_pure]
      rw [e] at h; exact h
    obtain ⟨d, e1, h1⟩ := gK.dat h'
    obtain ⟨ds, e2, h2⟩ := gK.dats h1
    refine ⟨d :: ds, ?_, h2⟩
    unfold datsM
    simp only [bindM, datM, pureM, e1, e2]
/-- the end of an operation -/
theorem gK.opt {o : Option (Bool × D)} {Q : VK} (h : gK K mg W (rE K) (optR o δ) σ δ P H Q) (S : SR K P H σ δ) : OpV K P H o Q := by
  cases o with
  | none => exact h
  | some p =>
    obtain ⟨fr, d⟩ := p
    cases fr with
    | false => exact fun v P' H' x r => h v H' P' (S.ext x) x.stp r
    | true => exact fun a P' H' x n np r => h (.ref a) H' P' (S.ext x) x.stp ⟨a, rfl, n, np, fun z => S.fresh n (by decide) z, fun z => S.fresh n (by decide) z, r⟩
theorem datsM_len : ∀ {rs : List R} {ds : List D}, datsM rs δ = .ok ds δ → ds.length = rs.length
  | [], ds, h => by cases h; rfl
  | r :: rs, ds, h => by
    unfold datsM at h
    simp only [bindM, datM, pureM] at h
    cases e : DL.dat δ r with
    | none => rw [e] at h; cases h
    | some d =>
      rw [e] at h
      simp only at h
      cases e2 : datsM rs δ with
      | ok es δ' =>
        rw [e2] at h
        cases h
        rw [List.length_cons, List.length_cons, datsM_len e2]
      | ex x δ' => rw [e2] at h; cases h
      | bad => rw [e2] at h; cases h
end

section
variable {X : Cx} {W : WX} {a b c e : Expr} {fa fb fc : M R} {pos : Pos}
/-- an operation with two operands -/
theorem tOp_of {K : Bas} {mg : Str → Option Value} {g : D → D → Option (Bool × D)} (σ : Sg) (H : Hp) (Q : VK) (h : eD K mg W (bin2 g fa fb) σ H Q) : tOp (rG K g) (eD K mg W fa) (eD K mg W fb) σ H Q := by
  refine gD.bind rE_up h fun r δ1 v H1 P1 δ P e1 S S1 s1 r1 q => ?_
  refine ⟨P1, δ1, S1, gK.bind rE_up q fun r' δ2 v' H2 P2 e2 S2 s2 r2 q => ?_⟩
  obtain ⟨d, ed, q⟩ := gK.dat q
  obtain ⟨d', ed', q⟩ := gK.dat q
  exact ⟨P2, d, d', S2.ph, RRep.dr r1 s2 S2 ed, RRep.dr r2 (Stp.refl _ _ _ _) S2 ed', gK.opt q S2⟩
theorem de_bin {op : Operator} {g : D → D → Option (Bool × D)} (ho : OpR X (binaryOp op) (rG X.bas g)) (ha : PE X a (eD X.bas X.mg W fa)) (hb : PE X b (eD X.bas X.mg W fb)) : PE X (.BinOp a op b pos) (eD X.bas X.mg W (bin2 g fa fb)) :=
  PE.mono (pe_op ho ha hb) tOp_of
theorem de_cmp {op : CmpOp} {g : D → D → Option (Bool × D)} (ho : OpR X (compareOp op) (rG X.bas g)) (ha : PE X a (eD X.bas X.mg W fa)) (hb : PE X b (eD X.bas X.mg W fb)) (hm : behindInMarks op b = false) : PE X (.Compare a [op] [b] pos) (eD X.bas X.mg W (bin2 g fa fb)) :=
  PE.mono (pe_cmpR ho ha hb hm) tOp_of
theorem de_un {op : UnaryOp} {g : D → Option (Bool × D)} (ho : UnR X (unaryOp op) (rU1 X.bas g)) (ha : PE X a (eD X.bas X.mg W fa)) : PE X (.UnaryOp op a pos) (eD X.bas X.mg W (un1 g fa)) :=
  PE.mono (pe_un ho ha) fun σ H Q h => gD.bind rE_up h fun r δ1 v H1 P1 δ P e1 S S1 s1 r1 q => by
    obtain ⟨d, ed, q⟩ := gK.dat q
    exact ⟨P1, d, S1.ph, RRep.dr r1 (Stp.refl _ _ _ _) S1 ed, gK.opt q S1⟩
theorem de_ix {g : D → D → Option (Bool × D)} (ho : IxR X (rG X.bas g)) (ha : PE X a (eD X.bas X.mg W fa)) (hb : PE X b (eD X.bas X.mg W fb)) (hs : PlainIx b) : PE X (.Subscript a b pos) (eD X.bas X.mg W (bin2 g fa fb)) :=
  PE.mono (pe_ix ho ha hb hs) tOp_of

/-! ### names, constants -/
def varM (i : Nat) : M R := fun δ => match δ[i]? with
  | some (some (.pers, d)) => .ok (.val d) δ
  | some (some (_, _)) => .ok (.slot i) δ
  | _ => .bad
theorem de_var {i : Nat} {x : Str} (hN : X.N[i]? = some x) (hv : Vis X.env.scope x) (hd : (x == ("__debug__" : Str)) = false) (hcd : (x == ("__classdict__" : Str)) = false) : PE X (.Name x pos) (eD X.bas X.mg W (varM i)) :=
  PE.mono (pe_var hN hv hd hcd) fun σ H Q ⟨P, δ, S, h⟩ => by
    unfold varM at h
    cases e : δ[i]? with
    | none => rw [e] at h; exact h.elim
    | some o =>
      rw [e] at h
      cases o with
      | none => exact h.elim
      | some p =>
        obtain ⟨k, d⟩ := p
        obtain ⟨v, ev, sl⟩ := S.sl i k d e
        refine ⟨v, ev, ?_⟩
        cases k with
        | pers => exact gK.pure (δ := δ) (P := P) h S sl
        | own => exact gK.pure (δ := δ) (P := P) h S ⟨.own, d, e, by decide, ev⟩
        | bor => exact gK.pure (δ := δ) (P := P) h S ⟨.bor, d, e, by decide, ev⟩
        | lck => exact gK.pure (δ := δ) (P := P) h S ⟨.lck, d, e, by decide, ev⟩
def conM (d : D) : M R := pureM (.val d)
theorem de_con {v : V} {d : D} (h : PE X e (tC v)) (r : ∀ P, Rep X.bas P v d) : PE X e (eD X.bas X.mg W (conM d)) :=
  PE.mono h fun σ H Q ⟨P, δ, S, q⟩ => gK.pure (δ := δ) (P := P) q S (r P)
theorem de_int {i : Int} {j : Nat} : PE X (.Constant (.int i) j pos) (eD X.bas X.mg W (conM (.int i))) := de_con pe_int fun _ => .int i
theorem de_bl {i : Bool} {j : Nat} : PE X (.Constant (.bool i) j pos) (eD X.bas X.mg W (conM (.bool i))) := de_con pe_bl fun _ => .bl i
theorem de_str {i : Str} {j : Nat} : PE X (.Constant (.str i) j pos) (eD X.bas X.mg W (conM (.str i))) := de_con pe_str fun _ => .str i
theorem de_non {j : Nat} : PE X (.Constant .none j pos) (eD X.bas X.mg W (conM .none)) := de_con pe_non fun _ => .non

/-! ### to data, to persistent data -/
/-- a new thing is made persistent; what is in a slot stays there -/
def frzO (δ : DEnv) (i : Nat) : DEnv := match δ[i]? with
  | some (some (.own, d)) => δ.set i (some (.pers, d))
  | _ => δ
/-- a result made persistent: one's own thing in a slot is from now on persistent, too -/
def persM (f : M R) : M D := bindM f fun r δ => match r with
  | .val d => .ok d δ
  | .new d => .ok d δ
  | .slot i => match δ[i]? with
    | some (some (.own, d)) => .ok d (δ.set i (some (.pers, d)))
    | _ => .bad
end
end DL

/-! # DL, part 3: what is made persistent; arguments, displays. -/
namespace DL
open PySem PySem.Spec PyProof.Rows L2

theorem PE.ghost {X : Cx} {e : Expr} {t t' : TE} (h : PE X e t) (k : ∀ σ H Q, t' σ H Q → t σ H fun v H1 => ∀ pins s, Inv X pins σ H1 s → ∃ H2, Inv X pins σ H2 s ∧ Q v H2) : PE X e t' :=
  ⟨fun pins s σ H Q I hw => thn (h.run pins s σ H _ I (k σ H Q hw)) fun u s1 ⟨v, H1, I1, r, q⟩ => by
    obtain ⟨H2, I2, q2⟩ := q pins s1 I1
    exact ⟨v, H2, I2, r, q2⟩⟩

section
variable {K : Bas} {σ : Sg} {δ0 δ δ' : DEnv} {P0 H0 P H : Hp}
theorem not_lck {a : Addr} {d e : D} (o : OwnR K P H a d) (l : LckR K P H a e) : False := by
  cases o with
  | lst h _ => cases l with
    | dK q _ => rw [h] at q; cases q
    | dT q _ _ => rw [h] at q; cases q
  | dK h _ => cases l with
    | dK q _ => rw [h] at q; cases q
    | dT q _ _ => rw [h] at q; cases q
  | dT h _ _ => cases l with
    | dK q _ => rw [h] at q; cases q
    | dT q _ _ => rw [h] at q; cases q
/-- one's own thing at a becomes the persistent o -/
theorem pers_core {a : Addr} {d : D} {o : HO} (S : SR K P H σ δ) (st : Stp σ δ0 P0 H0 σ δ P H) (hp : P a = none) (hc : Adr σ δ0 .own a ∨ H0 a = none)
    (hl : δ'.length = δ.length) (hA : ∀ j k e, At δ' j k e → (At δ j k e ∧ (k ≠ .pers → σ[j]? ≠ some (some (.ref a)))) ∨ (k = .pers ∧ e = d ∧ σ[j]? = some (some (.ref a))))
    (hB : ∀ j e, At δ j .bor e → At δ' j .bor e) (r : Rep K (upd P a o) (.ref a) d) (hh : H a = some o ∨ ∃ u, H a = some u) : SR K (upd P a o) (upd H a o) σ δ' ∧ Stp σ δ0 P0 H0 σ δ' (upd P a o) (upd H a o) := by
  have sub : Sub P (upd P a o) := Sub.upd hp
  have sl : ∀ j k e, At δ j k e → (k ≠ .pers → σ[j]? ≠ some (some (.ref a))) → ∃ v, σ[j]? = some (some v) ∧ SlotR K (upd P a o) (upd H a o) k v e := fun j k e h n => by
    obtain ⟨v, ev, s⟩ := S.sl j k e h
    refine ⟨v, ev, ?_⟩
    cases k with
    | pers => exact Rep.sub sub s
    | own => obtain ⟨b, rfl, nb, ob⟩ := s; have hb : b ≠ a := fun z => n (by decide) (by rw [ev, z]); exact ⟨b, rfl, by rw [upd_ne hb]; exact nb, ob.step sub fun q e => by rw [upd_ne hb]; exact e⟩
    | bor => obtain ⟨b, rfl, nb, ob⟩ := s; have hb : b ≠ a := fun z => n (by decide) (by rw [ev, z]); exact ⟨b, rfl, by rw [upd_ne hb]; exact nb, ob.step sub fun q e => by rw [upd_ne hb]; exact e⟩
    | lck => obtain ⟨b, rfl, nb, ob⟩ := s; have hb : b ≠ a := fun z => n (by decide) (by rw [ev, z]); exact ⟨b, rfl, by rw [upd_ne hb]; exact nb, ob.step sub fun q e => by rw [upd_ne hb]; exact e⟩
  refine ⟨⟨S.len.trans hl.symm, fun b u e => ?_, fun j k e h => ?_, fun i j k l d1 e1 b h1 h2 n1 n2 q1 q2 => ?_⟩, ⟨fun b u e n m => ?_, fun b u e n m => ?_, fun b u e => ?_, st.sub.trans sub, fun b h => ?_, fun i e h => ?_, fun i e h => ?_⟩⟩
  · by_cases hb : b = a
    · subst hb; rw [upd_same] at e ⊢; exact e
    · rw [upd_ne hb] at e ⊢; exact S.ph b u e
  · rcases hA j k e h with ⟨z, n⟩ | ⟨rfl, rfl, q⟩
    · exact sl j k e z n
    · exact ⟨_, q, r⟩
  · rcases hA i k d1 h1 with ⟨z1, _⟩ | ⟨e1, _, _⟩
    · rcases hA j l e1 h2 with ⟨z2, _⟩ | ⟨e2, _, _⟩
      · exact S.inj i j k l _ _ b z1 z2 n1 n2 q1 q2
      · exact absurd e2 n2
    · exact absurd e1 n1
  · have hb : b ≠ a := fun z => by
      subst z
      rcases hc with c | c
      · exact n c
      · rw [e] at c; cases c
    rw [upd_ne hb]; exact st.keep b u e n m
  · have hb : b ≠ a := fun z => by
      subst z
      rcases hc with c | c
      · exact n c
      · rw [e] at c; cases c
    rw [upd_ne hb]; exact st.pkeep b u e n m
  · obtain ⟨u1, e1⟩ := st.live b u e
    by_cases hb : b = a
    · subst hb; exact ⟨o, upd_same⟩
    · exact ⟨u1, by rw [upd_ne hb]; exact e1⟩
  · obtain ⟨i, e, h1, h2⟩ := h
    rcases hA i _ e h1 with ⟨z, _⟩ | ⟨z, _, _⟩
    · exact st.own b ⟨i, e, z, h2⟩
    · cases z
  · obtain ⟨⟨d1, h1⟩, q⟩ := st.bor i e h
    exact ⟨⟨d1, hB i d1 h1⟩, q⟩
  · rcases hA i _ e h with ⟨z, _⟩ | ⟨z, _, _⟩
    · exact st.borB i e z
    · cases z
theorem upd_id {H : Hp} {a : Addr} {o : HO} (h : H a = some o) : upd H a o = H := by
  funext b
  by_cases e : b = a
  · subst e; rw [upd_same, h]
  · rw [upd_ne e]
/-- .. with the lock of a dict -/
theorem pers_ok {X : Cx} {pins : List (Addr × Obj)} {s : Shared} {a : Addr} {d : D} (hK : X.bas = K) (I : Inv X pins σ H s) (S : SR K P H σ δ) (st : Stp σ δ0 P0 H0 σ δ P H) (hp : P a = none) (hc : Adr σ δ0 .own a ∨ H0 a = none) (o : OwnR K P H a d)
    (hl : δ'.length = δ.length) (hA : ∀ j k e, At δ' j k e → (At δ j k e ∧ (k ≠ .pers → σ[j]? ≠ some (some (.ref a)))) ∨ (k = .pers ∧ e = d ∧ σ[j]? = some (some (.ref a))))
    (hB : ∀ j e, At δ j .bor e → At δ' j .bor e) : ∃ P' H', Inv X pins σ H' s ∧ SR K P' H' σ δ' ∧ Stp σ δ0 P0 H0 σ δ' P' H' ∧ Rep K P' (.ref a) d := by
  cases o with
  | lst h r =>
    have r' : Rep K (upd P a (.lst _)) (.ref a) _ := .lst upd_same (r.sub (Sub.upd hp))
    obtain ⟨q1, q2⟩ := pers_core (o := .lst _) S st hp hc hl hA hB r' (.inl h)
    rw [upd_id h] at q1 q2
    exact ⟨_, _, I, q1, q2, r'⟩
  | dK h r =>
    obtain ⟨od, I1⟩ := I.lock h trivial
    have r' : Rep K (upd P a (.frz od (.dK _))) (.ref a) _ := .dK upd_same (r.sub (Sub.upd hp))
    obtain ⟨q1, q2⟩ := pers_core (o := .frz od (.dK _)) S st hp hc hl hA hB r' (.inr ⟨_, h⟩)
    exact ⟨_, _, I1, q1, q2, r'⟩
  | dT h n r =>
    obtain ⟨od, I1⟩ := I.lock h trivial
    have r' : Rep K (upd P a (.frz od (TD K a _))) (.ref a) _ := .dT upd_same n (r.sub (Sub.upd hp))
    obtain ⟨q1, q2⟩ := pers_core (o := .frz od (TD K a _)) S st hp hc hl hA hB r' (.inr ⟨_, h⟩)
    exact ⟨_, _, I1, q1, q2, r'⟩
theorem at_set {i j : Nat} {k l : Kd} {d e : D} (h : At (δ.set i (some (k, d))) j l e) : (j = i ∧ l = k ∧ e = d ∧ i < δ.length) ∨ (j ≠ i ∧ At δ j l e) := by
  unfold At at h
  by_cases hj : i = j
  · subst hj
    by_cases hi : i < δ.length
    · rw [List.getElem?_set_self hi] at h
      cases h
      exact .inl ⟨rfl, rfl, rfl, hi⟩
    · rw [List.getElem?_eq_none (by simpa using hi)] at h; cases h
  · rw [List.getElem?_set_ne hj] at h
    exact .inr ⟨fun z => hj z.symm, h⟩
theorem at_set_ne {i j : Nat} {l : Kd} {x : Option (Kd × D)} {e : D} (hj : j ≠ i) (h : At δ j l e) : At (δ.set i x) j l e := by
  unfold At
  rw [List.getElem?_set_ne (fun z => hj z.symm)]
  exact h
theorem at_set_self {i : Nat} {k : Kd} {d : D} {x : Option (Kd × D)} (h : δ[i]? = some x) : At (δ.set i (some (k, d))) i k d := by
  unfold At
  rw [List.getElem?_set_self (List.getElem?_eq_some_iff.mp h).1]
end

/-- a result made persistent, at a state -/
theorem pers_res {X : Cx} {pins : List (Addr × Obj)} {s : Shared} {σ : Sg} {δ0 δ : DEnv} {P0 H0 P H : Hp} {W : WX} {r : R} {v : V} {Q : VK}
    (I : Inv X pins σ H s) (S : SR X.bas P H σ δ) (st : Stp σ δ0 P0 H0 σ δ P H) (rr : RRep X.bas H0 P H σ δ v r)
    (h : gK X.bas X.mg W (rP X.bas) ((fun r δ => match r with
      | .val d => .ok d δ
      | .new d => .ok d δ
      | .slot i => match δ[i]? with
        | some (some (.own, d)) => .ok d (δ.set i (some (.pers, d)))
        | _ => .bad : R → M D) r δ) σ δ0 P0 H0 Q) : ∃ H2, Inv X pins σ H2 s ∧ Q v H2 := by
  cases r with
  | val d => exact ⟨H, I, h v H P S st rr⟩
  | new d =>
    obtain ⟨a, rfl, n0, np, no, nb, o⟩ := rr
    obtain ⟨P', H', I', S', st', r'⟩ := pers_ok (δ' := δ) rfl I S st np (.inr n0) o rfl (fun j k e hj => .inl ⟨hj, fun hk z => by
      cases k with
      | pers => exact hk rfl
      | own => exact no ⟨j, e, hj, z⟩
      | bor => exact nb ⟨j, e, hj, z⟩
      | lck =>
        obtain ⟨w, ew, b, eb, _, l⟩ := S.sl j .lck e hj
        rw [z] at ew; cases ew; cases eb
        exact not_lck o l⟩) fun _ _ q => q
    exact ⟨H', I', h _ H' P' S' st' r'⟩
  | slot i =>
    obtain ⟨k0, d0, h0, hk0, e0⟩ := rr
    change gK X.bas X.mg W (rP X.bas) (match δ[i]? with
        | some (some (.own, d)) => .ok d (δ.set i (some (.pers, d)))
        | _ => .bad) σ δ0 P0 H0 Q at h
    have h0' : δ[i]? = some (some (k0, d0)) := h0
    rw [h0'] at h
    cases k0 with
    | pers => exact absurd rfl hk0
    | bor => exact h.elim
    | lck => exact h.elim
    | own =>
      obtain ⟨w, ew, a, ea, na, o⟩ := S.sl i .own d0 h0
      rw [e0] at ew; cases ew; subst ea
      have inj : ∀ j k e, At δ j k e → k ≠ .pers → σ[j]? = some (some (.ref a)) → j = i := fun j k e hj hk z => S.inj j i k .own _ _ a hj h0 hk (by decide) z e0
      obtain ⟨P', H', I', S', st', r'⟩ := pers_ok (δ' := δ.set i (some (.pers, d0))) rfl I S st na (st.own a ⟨i, d0, h0, e0⟩) o (by rw [List.length_set]) (fun j k e hj => by
        rcases at_set hj with ⟨rfl, rfl, rfl, _⟩ | ⟨hne, hj⟩
        · exact .inr ⟨rfl, rfl, e0⟩
        · exact .inl ⟨hj, fun hk z => hne (inj j k e hj hk z)⟩) fun j e hj => at_set_ne (fun z => by subst z; rw [show At δ j .bor e from hj] at h0'; cases h0') hj
      exact ⟨H', I', h _ H' P' S' st' r'⟩

section
variable {X : Cx} {W : WX} {a b c e : Expr} {es : List Expr} {fa fb fc : M R} {pos : Pos}
theorem de_pers (he : PE X e (eD X.bas X.mg W fa)) : PE X e (pD X.bas X.mg W (persM fa)) :=
  PE.ghost he fun σ H Q ⟨P, δ, S, h⟩ => ⟨P, δ, S, by
    unfold persM bindM at h
    cases e : fa δ with
    | bad => rw [e] at h; exact h
    | ex x δ1 => rw [e] at h; exact h
    | ok r δ1 =>
      rw [e] at h
      intro v H1 P1 S1 st1 rr pins s I
      exact pers_res I S1 st1 rr h⟩
/-! ### arguments, persistent -/
def consM (fa : M D) (fr : M (List D)) : M (List D) := bindM fa fun d => bindM fr fun ds => pureM (d :: ds)
def nilM : M (List D) := pureM []
theorem da_nil : PA X [] (aD X.bas X.mg W nilM) := PA.mono pa_nil fun σ H Q ⟨P, δ, S, h⟩ => gK.pure (δ := δ) (P := P) h S RepL.nil
theorem tCons_of {K : Bas} {mg : Str → Option Value} {fa : M D} {fr : M (List D)} (σ : Sg) (H : Hp) (Q : List V → Hp → Prop) (h : aD K mg W (consM fa fr) σ H Q) : tCons (pD K mg W fa) (aD K mg W fr) σ H Q :=
  gD.bind rPs_up h fun d δ1 v H1 P1 δ P e1 S S1 s1 r1 q => ⟨P1, δ1, S1, gK.bind rPs_up q fun ds δ2 vs H2 P2 e2 S2 s2 r2 q => gK.pure q S2 (.cons (s2.rep r1) r2)⟩
theorem da_cons {fa : M D} {fr : M (List D)} (ha : PE X e (pD X.bas X.mg W fa)) (hr : PA X es (aD X.bas X.mg W fr)) (hs : starEach (e :: es) X.env = (false, eval e X.env) :: starEach es X.env) : PA X (e :: es) (aD X.bas X.mg W (consM fa fr)) :=
  PA.mono (pa_cons ha hr hs) tCons_of
/-! ### arguments as operands -/
def rOs (K : Bas) (mg : Str → Option Value) (W : WX) (fs : M (List D)) : TA := fun σ H Q => ∃ P δ, SR K P H σ δ ∧ match fs δ with
  | .ok ds δ' => ∀ vs H' P', SR K P' H' σ δ' → Stp σ δ P H σ δ' P' H' → DRs K P' H' vs ds → Q vs H'
  | .ex x δ' => ∀ cls d H' P', SR K P' H' σ δ' → Stp σ δ P H σ δ' P' H' → ExR K mg P' H' cls d x → W cls d σ H'
  | .bad => False
/-- one operand -/
def opd1 (fa : M R) : M (List D) := bindM fa fun r => bindM (datM r) fun d => pureM [d]
def opd2 (fa fb : M R) : M (List D) := bindM fa fun r => bindM fb fun q => bindM (datM r) fun d => bindM (datM q) fun e => pureM [d, e]
theorem gK_ok {K : Bas} {mg : Str → Option Value} {α β : Type} {rel : Rl β α} {r : Res α} {σ : Sg} {δ : DEnv} {P H : Hp} {Q : β → Hp → Prop} {a : α} {δ' : DEnv} (h : gK K mg W rel r σ δ P H Q) (e : r = .ok a δ') : ∀ v H' P', SR K P' H' σ δ' → Stp σ δ P H σ δ' P' H' → rel H P' H' σ δ' v a → Q v H' := by
  subst e; exact h
def rDs (K : Bas) : Rl (List V) (List D) := fun _ P H _ _ vs ds => DRs K P H vs ds
theorem rDs_up {K : Bas} : (rDs K).Up := fun _ _ _ _ _ _ _ _ _ h => h
abbrev dD (K : Bas) (mg : Str → Option Value) (W : WX) (f : M (List D)) : TA := gD K mg W (rDs K) f
theorem da_one (ha : PE X a (eD X.bas X.mg W fa)) (hs : starEach [a] X.env = (false, eval a X.env) :: starEach [] X.env) : PA X [a] (dD X.bas X.mg W (opd1 fa)) :=
  PA.mono (pa_cons ha pa_nil hs) fun σ H Q h => gD.bind rDs_up h fun r δ1 v H1 P1 δ P e1 S S1 s1 r1 q => by
    obtain ⟨d, ed, q⟩ := gK.dat q
    exact gK.pure q S1 (.cons (RRep.dr r1 (Stp.refl _ _ _ _) S1 ed) .nil)
theorem da_two (ha : PE X a (eD X.bas X.mg W fa)) (hb : PE X b (eD X.bas X.mg W fb)) (hs : starEach [a, b] X.env = (false, eval a X.env) :: starEach [b] X.env) (hs2 : starEach [b] X.env = (false, eval b X.env) :: starEach [] X.env) : PA X [a, b] (dD X.bas X.mg W (opd2 fa fb)) :=
  PA.mono (pa_cons ha (pa_cons hb pa_nil hs2) hs) fun σ H Q h => gD.bind rDs_up h fun r δ1 v H1 P1 δ P e1 S S1 s1 r1 q => ⟨P1, δ1, S1, gK.bind rDs_up q fun r' δ2 v' H2 P2 e2 S2 s2 r2 q => by
    obtain ⟨d, ed, q⟩ := gK.dat q
    obtain ⟨d', ed', q⟩ := gK.dat q
    exact gK.pure q S2 (.cons (RRep.dr r1 s2 S2 ed) (.cons (RRep.dr r2 (Stp.refl _ _ _ _) S2 ed') .nil))⟩
/-- a built-in function of data -/
def callM (g : List D → Option (Bool × D)) (fs : M (List D)) : M R := bindM fs fun ds => optR (g ds)
theorem tCB_of {K : Bas} {mg : Str → Option Value} {g : List D → Option (Bool × D)} {fs : M (List D)} (σ : Sg) (H : Hp) (Q : VK) (h : eD K mg W (callM g fs) σ H Q) : tCB (cG K g) (dD K mg W fs) σ H Q :=
  gD.bind rE_up h fun ds δ1 vs H1 P1 δ P e1 S S1 s1 r1 q => ⟨P1, ds, S1.ph, r1, gK.opt q S1⟩
theorem de_callB {x : Str} {id : String} {g : List D → Option (Bool × D)} {fs : M (List D)} {p : Pos} (hc : CallR X (.builtin id) (cG X.bas g)) (hg : Gl X x) (hm : X.mg x = none) (hv : bootBuiltins x = some (.builtin id)) (ha : PA X (e :: es) (dD X.bas X.mg W fs)) (hn : x ≠ "__name__") (hdb : (x == ("__debug__" : Str)) = false)
    (he : starEach (e :: es) X.env = (false, eval e X.env) :: starEach es X.env) (hpl : (backTo pos (starEach es X.env)).any (·.1) = false) : PE X (.Call (.Name x p) (e :: es) [] pos) (eD X.bas X.mg W (callM g fs)) :=
  PE.mono (pe_callB hc hg hm hv ha hn hdb he hpl) tCB_of
theorem de_callTy {x : Str} {T : String} {g : List D → Option (Bool × D)} {fs : M (List D)} {p : Pos} (hc : CallR X (.type T) (cG X.bas g)) (hg : Gl X x) (hm : X.mg x = none) (hv : bootBuiltins x = some (.type T)) (ha : PA X (e :: es) (dD X.bas X.mg W fs)) (hn : x ≠ "__name__") (hdb : (x == ("__debug__" : Str)) = false)
    (he : starEach (e :: es) X.env = (false, eval e X.env) :: starEach es X.env) (hpl : (backTo pos (starEach es X.env)).any (·.1) = false) : PE X (.Call (.Name x p) (e :: es) [] pos) (eD X.bas X.mg W (callM g fs)) :=
  PE.mono (pe_callTy hc hg hm hv ha hn hdb he hpl) tCB_of
/-! ### displays -/
def tupM (fs : M (List D)) : M R := bindM fs fun ds => pureM (.val (.tuple ds))
def lstM (fs : M (List D)) : M R := bindM fs fun ds => pureM (.new (.list ds))
/-- so many results -/
def LenM {α : Type} (fs : M (List α)) (n : Nat) : Prop := ∀ δ ds δ', fs δ = .ok ds δ' → ds.length = n
theorem len_nil : LenM nilM 0 := fun δ ds δ' h => by cases h; rfl
theorem len_cons {fa : M D} {fr : M (List D)} {n : Nat} (h : LenM fr n) : LenM (consM fa fr) (n + 1) := fun δ ds δ' e => by
  unfold consM bindM at e
  cases e1 : fa δ with
  | bad => rw [e1] at e; cases e
  | ex x δ1 => rw [e1] at e; cases e
  | ok d δ1 =>
    rw [e1] at e
    simp only at e
    cases e2 : fr δ1 with
    | bad => rw [e2] at e; cases e
    | ex x δ2 => rw [e2] at e; cases e
    | ok es δ2 =>
      rw [e2] at e
      cases e
      rw [List.length_cons, h δ1 es δ' e2]
theorem line_big {n : Nat} (h : n ≤ 1000) : n ≤ sizeLine := by rw [sizeLine_eq]; omega
theorem de_tup {fs : M (List D)} {x1 n : Nat} (h : PA X es (aD X.bas X.mg W fs)) (hl : LenM fs n) (hz : n ≤ 1000) : PE X (.Tuple es x1 pos) (eD X.bas X.mg W (tupM fs)) :=
  PE.mono (pe_tup h) fun σ H Q hq => gD.bind rE_up hq fun ds δ1 vs H1 P1 δ P e1 S S1 s1 r1 q => by
    refine ⟨line_big (by rw [RepL.length r1, hl _ _ _ e1]; exact hz), fun p hp => ?_⟩
    have x : Ext P1 H1 (upd P1 p (.tup vs)) (upd H1 p (.tup vs)) := Ext.newP S1.ph hp
    exact q (.ref p) _ _ (S1.ext x) x.stp (.tup (.inl (.inl upd_same)) (r1.sub x.sub))
theorem de_lst {fs : M (List D)} {n : Nat} (h : PA X es (aD X.bas X.mg W fs)) (hl : LenM fs n) (hz : n ≤ 1000) : PE X (.List es pos) (eD X.bas X.mg W (lstM fs)) :=
  PE.mono (pe_lst h) fun σ H Q hq => gD.bind rE_up hq fun ds δ1 vs H1 P1 δ P e1 S S1 s1 r1 q => by
    refine ⟨line_big (by rw [RepL.length r1, hl _ _ _ e1]; exact hz), fun p hp => ?_⟩
    have x : Ext P1 H1 P1 (upd H1 p (.lst vs)) := Ext.newO S1.ph hp
    exact q (.ref p) _ _ (S1.ext x) x.stp ⟨p, rfl, hp, S1.ph.none hp, fun z => S1.fresh hp (by decide) z, fun z => S1.fresh hp (by decide) z, .lst upd_same r1⟩
/-- {} -/
def dct0 : M R := pureM (.new (.dict []))
theorem de_dict0 : PE X (.Dict [] [] pos) (eD X.bas X.mg W dct0) :=
  PE.mono pe_dnewK fun σ H Q ⟨P, δ, S, h⟩ p hp => by
    have x : Ext P H P (upd H p (.dK [])) := Ext.newO S.ph hp
    exact h (.ref p) _ _ (S.ext x) x.stp ⟨p, rfl, hp, S.ph.none hp, fun z => S.fresh hp (by decide) z, fun z => S.fresh hp (by decide) z, .dK upd_same .nil⟩
/-! ### tests -/
/-- a value that is True or False -/
def boolM (f : M R) : M Bool := bindM f fun r => match r with
  | .val (.bool b) => pureM b
  | _ => badM
theorem tB_of {K : Bas} {mg : Str → Option Value} {f : M R} (σ : Sg) (H : Hp) (Q : Bool → Hp → Prop) (h : bD K mg W (boolM f) σ H Q) : eD K mg W f σ H (fun x H1 => ∃ c, x = .bl c ∧ Q c H1) :=
  gD.bind rB_up h fun r δ1 v H1 P1 δ P e1 S S1 s1 r1 q => by
    cases r with
    | new d => exact q.elim
    | slot i => exact q.elim
    | val d =>
      cases d with
      | bool b => cases r1; exact ⟨b, rfl, gK.pure q S1 rfl⟩
      | none => exact q.elim
      | int i => exact q.elim
      | str i => exact q.elim
      | list i => exact q.elim
      | tuple i => exact q.elim
      | dict i => exact q.elim
/-- a comparison, a call .. of truth as a test -/
theorem dt_val (he : PE X e (eD X.bas X.mg W fa)) (hi : ∀ whole, isTrue e X.env whole = (do let v ← whole; standAt e.pos; holding [v] (truthy v))) : PT X e (bD X.bas X.mg W (boolM fa)) :=
  PT.mono (pt_val he hi) tB_of
theorem dt_cmp {op : CmpOp} {g : D → D → Option (Bool × D)} (ho : OpR X (compareOp op) (rG X.bas g)) (ha : PE X a (eD X.bas X.mg W fa)) (hb : PE X b (eD X.bas X.mg W fb)) (hm : behindInMarks op b = false) : PT X (.Compare a [op] [b] pos) (bD X.bas X.mg W (boolM (bin2 g fa fb))) :=
  PT.mono (pt_cmpR ho ha hb hm) fun σ H Q h => tOp_of σ H _ (tB_of σ H Q h)
def notB (f : M Bool) : M Bool := bindM f fun b => pureM (!b)
def andB (f g : M Bool) : M Bool := bindM f fun b => if b = true then g else pureM false
def orB (f g : M Bool) : M Bool := bindM f fun b => if b = true then pureM true else g
theorem dt_not {f : M Bool} (h : PT X a (bD X.bas X.mg W f)) : PT X (.UnaryOp .Not a pos) (bD X.bas X.mg W (notB f)) :=
  PT.mono (pt_not h) fun σ H Q h => gD.bind rB_up h fun r δ1 v H1 P1 δ P e1 S S1 s1 r1 q => by
    cases r1
    exact gK.pure q S1 rfl
variable {rest : List Expr}
theorem dw_and1 {f : M Bool} (h : PT X a (bD X.bas X.mg W f)) : PW X (.BoolOp .And [a] pos) (bD X.bas X.mg W f) := pw_and1 h
theorem dw_or1 {f : M Bool} (h : PT X a (bD X.bas X.mg W f)) : PW X (.BoolOp .Or [a] pos) (bD X.bas X.mg W f) := pw_or1 h
theorem dw_and {f g : M Bool} (h : PT X a (bD X.bas X.mg W f)) (hr : PW X (.BoolOp .And (b :: rest) pos) (bD X.bas X.mg W g)) : PW X (.BoolOp .And (a :: b :: rest) pos) (bD X.bas X.mg W (andB f g)) :=
  PW.mono (pw_and h hr) fun σ H Q h => gD.bind rB_up h fun r δ1 v H1 P1 δ P e1 S S1 s1 r1 q => by
    cases r1
    by_cases c : r = true
    · rw [if_pos c] at q ⊢
      exact ⟨P1, δ1, S1, q⟩
    · rw [if_neg c] at q ⊢
      exact gK.pure q S1 rfl
theorem dw_or {f g : M Bool} (h : PT X a (bD X.bas X.mg W f)) (hr : PW X (.BoolOp .Or (b :: rest) pos) (bD X.bas X.mg W g)) : PW X (.BoolOp .Or (a :: b :: rest) pos) (bD X.bas X.mg W (orB f g)) :=
  PW.mono (pw_or h hr) fun σ H Q h => gD.bind rB_up h fun r δ1 v H1 P1 δ P e1 S S1 s1 r1 q => by
    cases r1
    by_cases c : r = true
    · rw [if_pos c] at q ⊢
      exact gK.pure q S1 rfl
    · rw [if_neg c] at q ⊢
      exact ⟨P1, δ1, S1, q⟩
/-! ### .. as values -/
def andM (f g : M R) : M R := bindM (boolM f) fun b => if b = true then g else pureM (.val (.bool false))
def orM (f g : M R) : M R := bindM (boolM f) fun b => if b = true then pureM (.val (.bool true)) else g
def notM (f : M R) : M R := bindM (boolM f) fun b => pureM (.val (.bool (!b)))
def ifM (c : M Bool) (f g : M R) : M R := bindM c fun b => if b = true then f else g
theorem boolM_bind {β : Type} {f : M R} {g : Bool → M β} : bindM (boolM f) g = bindM f fun r => bindM (match r with | .val (.bool b) => pureM b | _ => badM) g := bindM_assoc _ _ _
theorem de_one {op : BoolOp} (h : PE X a (eD X.bas X.mg W fa)) : PE X (.BoolOp op [a] pos) (eD X.bas X.mg W fa) := pe_one h
theorem bool_inv {K : Bas} {mg : Str → Option Value} {r : R} {g : Bool → M R} {σ : Sg} {δ : DEnv} {P H : Hp} {Q : VK} {v : V} {H0 : Hp} (q : gK K mg W (rE K) (bindM (match r with | .val (.bool b) => pureM b | _ => badM) g δ) σ δ P H Q) (rr : RRep K H0 P H σ δ v r) : ∃ b, v = .bl b ∧ gK K mg W (rE K) (g b δ) σ δ P H Q := by
  cases r with
  | new d => exact q.elim
  | slot i => exact q.elim
  | val d =>
    cases d with
    | bool b => cases rr; exact ⟨b, rfl, q⟩
    | none => exact q.elim
    | int i => exact q.elim
    | str i => exact q.elim
    | list i => exact q.elim
    | tuple i => exact q.elim
    | dict i => exact q.elim
theorem de_and (ha : PE X a (eD X.bas X.mg W fa)) (hb : PE X (.BoolOp .And (b :: rest) pos) (eD X.bas X.mg W fb)) : PE X (.BoolOp .And (a :: b :: rest) pos) (eD X.bas X.mg W (andM fa fb)) :=
  PE.mono (pe_and ha hb) fun σ H Q h => by
    unfold andM at h; rw [boolM_bind] at h
    refine gD.bind rE_up h fun r δ1 v H1 P1 δ P e1 S S1 s1 r1 q => ?_
    obtain ⟨c, e, q⟩ := bool_inv q r1
    refine ⟨c, e, ?_⟩
    by_cases hc : c = true
    · rw [if_pos hc] at q ⊢; exact ⟨P1, δ1, S1, q⟩
    · rw [if_neg hc] at q ⊢; exact gK.pure q S1 (.bl false)
theorem de_or (ha : PE X a (eD X.bas X.mg W fa)) (hb : PE X (.BoolOp .Or (b :: rest) pos) (eD X.bas X.mg W fb)) : PE X (.BoolOp .Or (a :: b :: rest) pos) (eD X.bas X.mg W (orM fa fb)) :=
  PE.mono (pe_or ha hb) fun σ H Q h => by
    unfold orM at h; rw [boolM_bind] at h
    refine gD.bind rE_up h fun r δ1 v H1 P1 δ P e1 S S1 s1 r1 q => ?_
    obtain ⟨c, e, q⟩ := bool_inv q r1
    refine ⟨c, e, ?_⟩
    by_cases hc : c = true
    · rw [if_pos hc] at q ⊢; exact gK.pure q S1 (.bl true)
    · rw [if_neg hc] at q ⊢; exact ⟨P1, δ1, S1, q⟩
theorem de_not (ha : PE X a (eD X.bas X.mg W fa)) : PE X (.UnaryOp .Not a pos) (eD X.bas X.mg W (notM fa)) :=
  PE.mono (pe_not ha) fun σ H Q h => by
    unfold notM at h; rw [boolM_bind] at h
    refine gD.bind rE_up h fun r δ1 v H1 P1 δ P e1 S S1 s1 r1 q => ?_
    obtain ⟨c, e, q⟩ := bool_inv q r1
    exact ⟨c, e, gK.pure q S1 (.bl _)⟩
theorem de_if {f : M Bool} (hc : PT X c (bD X.bas X.mg W f)) (ha : PE X a (eD X.bas X.mg W fa)) (hb : PE X b (eD X.bas X.mg W fb)) : PE X (.IfExp c a b pos) (eD X.bas X.mg W (ifM f fa fb)) :=
  PE.mono (pe_ifExp hc ha hb) fun σ H Q h => gD.bind rE_up h fun r δ1 v H1 P1 δ P e1 S S1 s1 r1 q => by
    cases r1
    by_cases c : r = true
    · rw [if_pos c] at q ⊢; exact ⟨P1, δ1, S1, q⟩
    · rw [if_neg c] at q ⊢; exact ⟨P1, δ1, S1, q⟩
/-- a op b op' c -/
def chn2 (g g' : D → D → Option (Bool × D)) (fa fb fc : M R) : M R := bindM fa fun r => bindM fb fun q => bindM (datM r) fun d => bindM (datM q) fun e => match g d e with
  | some (false, .bool b) => if b = true then bindM fc fun p => bindM (datM q) fun e' => bindM (datM p) fun c => optR (g' e' c) else pureM (.val (.bool false))
  | _ => badM
theorem tChain_of {K : Bas} {mg : Str → Option Value} {g g' : D → D → Option (Bool × D)} (σ : Sg) (H : Hp) (Q : VK) (h : eD K mg W (chn2 g g' fa fb fc) σ H Q) : tChain (rG K g) (rG K g') (eD K mg W fa) (eD K mg W fb) (eD K mg W fc) σ H Q := by
  refine gD.bind rE_up h fun r δ1 v H1 P1 δ P e1 S S1 s1 r1 q => ?_
  refine ⟨P1, δ1, S1, gK.bind rE_up q fun r' δ2 v' H2 P2 e2 S2 s2 r2 q => ?_⟩
  obtain ⟨d, ed, q⟩ := gK.dat q
  obtain ⟨d', ed', q⟩ := gK.dat q
  refine ⟨P2, d, d', S2.ph, RRep.dr r1 s2 S2 ed, RRep.dr r2 (Stp.refl _ _ _ _) S2 ed', ?_⟩
  cases hg : g d d' with
  | none => rw [hg] at q; exact q.elim
  | some p =>
    rw [hg] at q
    obtain ⟨fr, z⟩ := p
    cases fr with
    | true => exact q.elim
    | false =>
      cases z with
      | bool b =>
        intro v3 P3 H3 x3 r3
        cases r3
        refine ⟨b, rfl, ?_⟩
        change gK K mg W (rE K) ((if b = true then bindM fc fun p => bindM (datM r') fun e' => bindM (datM p) fun c => optR (g' e' c) else pureM (.val (.bool false)) : M R) δ2) σ δ2 P2 H2 Q at q
        by_cases hb : b = true
        · rw [if_pos hb] at q ⊢
          -- the state behind the first comparison is the same but for new things
          have S3 := S2.ext x3
          have q3 : gK K mg W (rE K) ((bindM fc fun p => bindM (datM r') fun e' => bindM (datM p) fun c => optR (g' e' c)) δ2) σ δ2 P3 H3 Q := by
            cases hq : (bindM fc fun p => bindM (datM r') fun e' => bindM (datM p) fun c => optR (g' e' c)) δ2 with
            | ok a δ4 => rw [hq] at q; exact fun w H4 P4 S4 s4 r4 => q w H4 P4 S4 (x3.stp.trans s4) (rE_up _ _ _ _ _ _ _ _ (fun b hb => live_back (σ := σ) (δ := δ2) (δ1 := δ2) x3.stp hb) r4)
            | ex a δ4 => rw [hq] at q; exact fun w dd H4 P4 S4 s4 r4 => q w dd H4 P4 S4 (x3.stp.trans s4) r4
            | bad => rw [hq] at q; exact q
          refine ⟨P3, δ2, S3, gK.bind rE_up q3 fun r4 δ4 v4 H4 P4 e4 S4 s4 rr4 q => ?_⟩
          obtain ⟨e5, ee5, q⟩ := gK.dat q
          obtain ⟨e6, ee6, q⟩ := gK.dat q
          exact ⟨P4, e5, e6, S4.ph, RRep.dr r2 (x3.stp.trans s4) S4 ee5, RRep.dr rr4 (Stp.refl _ _ _ _) S4 ee6, gK.opt q S4⟩
        · rw [if_neg hb] at q ⊢
          exact q (.bl false) H3 P3 (S2.ext x3) x3.stp (.bl false)
      | none => exact q.elim
      | int i => exact q.elim
      | str i => exact q.elim
      | list i => exact q.elim
      | tuple i => exact q.elim
      | dict i => exact q.elim
theorem de_chain {op op' : CmpOp} {g g' : D → D → Option (Bool × D)} (ho : OpR X (compareOp op) (rG X.bas g)) (ho' : OpR X (compareOp op') (rG X.bas g')) (ha : PE X a (eD X.bas X.mg W fa)) (hb : PE X b (eD X.bas X.mg W fb)) (hc : PE X c (eD X.bas X.mg W fc)) (hm : lastMarks [op, op'] [b, c] = false) :
    PE X (.Compare a [op, op'] [b, c] pos) (eD X.bas X.mg W (chn2 g g' fa fb fc)) := PE.mono (pe_chain ho ho' ha hb hc hm) tChain_of
theorem dt_chain {op op' : CmpOp} {g g' : D → D → Option (Bool × D)} (ho : OpR X (compareOp op) (rG X.bas g)) (ho' : OpR X (compareOp op') (rG X.bas g')) (ha : PE X a (eD X.bas X.mg W fa)) (hb : PE X b (eD X.bas X.mg W fb)) (hc : PE X c (eD X.bas X.mg W fc)) (hm : lastMarks [op, op'] [b, c] = false) :
    PT X (.Compare a [op, op'] [b, c] pos) (bD X.bas X.mg W (boolM (chn2 g g' fa fb fc))) := PT.mono (pt_chain ho ho' ha hb hc hm) fun σ H Q h => tChain_of σ H _ (tB_of σ H Q h)
end
end DL

/-! # DL, part 4: the operations on data, and that the model does them. -/
namespace DL
open PySem PySem.Spec PyProof.Rows L2

section
variable {K : Bas} {P H : Hp}
theorem Rep.dp (s : Sub P H) {v : V} {d : D} (h : Rep K P v d) : d.plain = true → Dp K.K H v d :=
  Rep.rec (motive_1 := fun v d _ => d.plain = true → Dp K.K H v d) (motive_2 := fun vs ds _ => PyData.plainAll ds = true → DpAll K.K H vs ds) (motive_3 := fun _ _ _ => True) (motive_4 := fun _ _ _ => True)
    (fun _ => .non) (fun b _ => .bl b) (fun i _ => .int i) (fun x _ => .str x) (fun h _ ih p => .lst (.inl (.inl (s _ _ h))) (ih (by simpa only [PyData.plain] using p))) (fun h _ ih p => .tup (sqT_sub s h) (ih (by simpa only [PyData.plain] using p)))
    (fun _ _ _ p => by simp [PyData.plain] at p) (fun _ _ _ _ p => by simp [PyData.plain] at p)
    (fun _ => .nil) (fun _ _ a b p => by rw [PyData.plainAll, Bool.and_eq_true] at p; exact .cons (a p.1) (b p.2)) trivial (fun _ _ _ _ => trivial) trivial (fun _ _ _ _ _ => trivial) h
theorem RepL.dp (s : Sub P H) : ∀ {vs : List V} {ds : List D}, RepL K P vs ds → PyData.plainAll ds = true → DpAll K.K H vs ds
  | _, _, .nil, _ => .nil
  | _, _, .cons a t, p => by rw [PyData.plainAll, Bool.and_eq_true] at p; exact .cons (a.dp s p.1) (RepL.dp s t p.2)
theorem DR.dp (s : Sub P H) {v : V} {d : D} (h : DR K P H v d) (p : d.plain = true) : Dp K.K H v d := by
  rcases h with h | ⟨a, rfl, h | h⟩
  · exact h.dp s p
  · cases h with
    | lst e r => exact .lst (.inl (.inl e)) (r.dp s (by simpa only [PyData.plain] using p))
    | dK e r => simp [PyData.plain] at p
    | dT e _ r => simp [PyData.plain] at p
  · cases h with
    | dK e r => simp [PyData.plain] at p
    | dT e _ r => simp [PyData.plain] at p
theorem DR.reads {X : Cx} {pins : List (Addr × Obj)} {σ : Sg} {s : Shared} (hK : X.bas = K) (I : Inv X pins σ H s) (sb : Sub P H) {v : V} {u : Value} {d : D} (h : DR K P H v d) (p : d.plain = true) (r : RelV v u) : ∃ as, Reads s.heap u d as := by
  subst hK
  exact Dp.reads I d v u (h.dp sb p) r
/-! ### what a list, a tuple, a dict that is read is -/
theorem DR.list {v : V} {ds : List D} (sb : Sub P H) (h : DR K P H v (.list ds)) : ∃ a vs, v = .ref a ∧ H a = some (.lst vs) ∧ RepL K P vs ds := by
  rcases h with h | ⟨a, rfl, h | h⟩
  · cases h with
    | lst e r => exact ⟨_, _, rfl, sb _ _ e, r⟩
  · cases h with
    | lst e r => exact ⟨_, _, rfl, e, r⟩
  · cases h
theorem DR.tuple {v : V} {ds : List D} (sb : Sub P H) (h : DR K P H v (.tuple ds)) : ∃ a vs, v = .ref a ∧ SqT K.K P a vs ∧ SqT K.K H a vs ∧ RepL K P vs ds := by
  rcases h with h | ⟨a, rfl, h | h⟩
  · cases h with
    | tup e r => exact ⟨_, _, rfl, e, sqT_sub sb e, r⟩
  · cases h
  · cases h
/-- a dict that is read -/
theorem DR.dict {v : V} {m : List (D × D)} (sb : Sub P H) (h : DR K P H v (.dict m)) : ∃ a, v = .ref a ∧ ((∃ kvs, Rd H a (.dK kvs) ∧ RepK K P kvs m) ∨ ∃ xs, Rd H a (TD K a xs) ∧ xs ≠ [] ∧ RepT K P xs m) := by
  rcases h with h | ⟨a, rfl, h | h⟩
  · cases h with
    | dK e r => exact ⟨_, rfl, .inl ⟨_, .inr ⟨_, sb _ _ e⟩, r⟩⟩
    | dT e n r => exact ⟨_, rfl, .inr ⟨_, .inr ⟨_, sb _ _ e⟩, n, r⟩⟩
  · cases h with
    | dK e r => exact ⟨_, rfl, .inl ⟨_, .inl e, r⟩⟩
    | dT e n r => exact ⟨_, rfl, .inr ⟨_, .inl e, n, r⟩⟩
  · cases h with
    | dK e r => exact ⟨_, rfl, .inl ⟨_, .inr ⟨_, e⟩, r⟩⟩
    | dT e n r => exact ⟨_, rfl, .inr ⟨_, .inr ⟨_, e⟩, n, r⟩⟩
theorem DR.int {v : V} {i : Int} (h : DR K P H v (.int i)) : v = .int i := by
  rcases h with h | ⟨a, rfl, h | h⟩
  · cases h; rfl
  · cases h
  · cases h
theorem DR.bool {v : V} {i : Bool} (h : DR K P H v (.bool i)) : v = .bl i := by
  rcases h with h | ⟨a, rfl, h | h⟩
  · cases h; rfl
  · cases h
  · cases h
theorem DR.str {v : V} {i : Str} (h : DR K P H v (.str i)) : v = .str i := by
  rcases h with h | ⟨a, rfl, h | h⟩
  · cases h; rfl
  · cases h
  · cases h
theorem DR.none {v : V} (h : DR K P H v .none) : v = .non := by
  rcases h with h | ⟨a, rfl, h | h⟩
  · cases h; rfl
  · cases h
  · cases h
/-- an atom as the answer -/
theorem OpV.atom {d : D} {v : V} {Q : VK} (h : OpV K P H (some (false, d)) Q) (sb : Sub P H) (r : Rep K P v d) : Q v H := h v P H (Ext.refl sb) r
theorem OpV.newL {ds : List D} {vs : List V} {Q : VK} (h : OpV K P H (some (true, .list ds)) Q) (sb : Sub P H) (r : RepL K P vs ds) : ∀ p, H p = none → Q (.ref p) (upd H p (.lst vs)) := fun p hp =>
  h p P _ (Ext.newO sb hp) hp (sb.none hp) (.lst upd_same r)
theorem OpV.newT {ds : List D} {vs : List V} {Q : VK} (h : OpV K P H (some (false, .tuple ds)) Q) (sb : Sub P H) (r : RepL K P vs ds) : ∀ p, H p = none → Q (.ref p) (upd H p (.tup vs)) := fun p hp =>
  h (.ref p) _ _ (Ext.newP sb hp) (.tup (.inl (.inl upd_same)) (r.sub (Sub.upd (sb.none hp))))
end

/-! ### comparisons -/
/-- small enough, and no dict in it -/
def sm (d : D) : Bool := d.plain && decide (d.depth ≤ 30)
theorem sm_plain {d : D} (h : sm d = true) : d.plain = true := by unfold sm at h; rw [Bool.and_eq_true] at h; exact h.1
theorem sm_depth {d : D} (h : sm d = true) : d.depth ≤ 30 := by unfold sm at h; rw [Bool.and_eq_true] at h; exact of_decide_eq_true h.2
def bl (b : Bool) : Option (Bool × D) := some (false, .bool b)
def eqD (d e : D) : Option (Bool × D) := if sm d && sm e then bl (PyData.eqv d e) else none
def neD (d e : D) : Option (Bool × D) := if sm d && sm e then bl (!PyData.eqv d e) else none
def notNone : D → Bool
  | .none => false
  | _ => true
theorem notNone_ne {d : D} (h : notNone d = true) : d ≠ .none := fun z => by subst z; cases h
def lt' (d e : D) : Bool := PySem.W.alike d e && notNone d && sm d && sm e
def ltD (d e : D) : Option (Bool × D) := if lt' d e then bl (PySem.W.dataLt d e) else none
def gtD (d e : D) : Option (Bool × D) := if lt' d e then bl (PySem.W.dataLt e d) else none
def leD (d e : D) : Option (Bool × D) := if lt' d e then bl (!PySem.W.dataLt e d) else none
def geD (d e : D) : Option (Bool × D) := if lt' d e then bl (!PySem.W.dataLt d e) else none
def isD (d e : D) : Option (Bool × D) := match e with
  | .none => bl (!notNone d)
  | .bool b => match d with
    | .bool a => bl (decide (a = b))
    | _ => none
  | _ => none
def isNotD (d e : D) : Option (Bool × D) := match e with
  | .none => bl (notNone d)
  | .bool b => match d with
    | .bool a => bl (!decide (a = b))
    | _ => none
  | _ => none

section
variable {X : Cx}
theorem if_some {c : Bool} {o : Option (Bool × D)} {K : Bas} {P H : Hp} {Q : VK} (h : OpV K P H (if c = true then o else none) Q) : c = true ∧ OpV K P H o Q := by
  by_cases hc : c = true
  · rw [if_pos hc] at h; exact ⟨hc, h⟩
  · rw [if_neg hc] at h; exact h.elim
theorem and3 {a b c d : Bool} (h : (a && b && c && d) = true) : a = true ∧ b = true ∧ c = true ∧ d = true := by
  simp only [Bool.and_eq_true] at h
  exact ⟨h.1.1.1, h.1.1.2, h.1.2, h.2⟩
/-- a comparison that leaves all as it is -/
theorem op_data {f : Value → Value → Sem Value} {g : D → D → Option (Bool × D)} (hu : X.A.units + 64 < cLine)
    (rule : ∀ (pins : List (Addr × Obj)) (σ : Sg) (s : Shared) (H P : Hp) (v u : Value) (x y : V) (d e : D) (Q : VK) , Inv X pins σ H s → Sub P H → RelV x v → RelV y u → DR X.bas P H x d → DR X.bas P H y e → OpV X.bas P H (g d e) Q → wpAny (model X.prog X.w) X.A (f v u) (EP X pins σ Q) X.xe s) :
    OpR X f (rG X.bas g) := fun pins s σ H x y v u Q I rx ry ⟨P, d, e, sb, hx, hy, ho⟩ => rule pins σ s H P v u x y d e Q I sb rx ry hx hy ho
theorem end_bl {pins : List (Addr × Obj)} {σ : Sg} {s : Shared} {P H : Hp} {Q : VK} {b : Bool} (I : Inv X pins σ H s) (sb : Sub P H) (h : OpV X.bas P H (bl b) Q) : EP X pins σ Q (.bool b) s := ⟨.bl b, H, I, rfl, h.atom sb (.bl b)⟩
theorem room_min {n a b : Nat} (hu : n + 64 < cLine) (h : a ≤ 30) : n + min a b < cLine := by
  have := Nat.min_le_left a b
  omega
theorem op_ltDD (hu : X.A.units + 64 < cLine) : OpR X (compareOp .Lt) (rG X.bas ltD) := op_data hu fun pins σ s H P v u x y d e Q I sb rx ry hx hy ho => by
  obtain ⟨hc, ho⟩ := if_some ho
  obtain ⟨h1, h2, h3, h4⟩ := and3 hc
  obtain ⟨as, ra⟩ := hx.reads rfl I sb (sm_plain h3) rx
  obtain ⟨bs, rb⟩ := hy.reads rfl I sb (sm_plain h4) ry
  exact PySem.W.lt_data ra rb h1 (notNone_ne h2) (room_min hu (sm_depth h3)) (end_bl I sb ho)
theorem op_gtDD (hu : X.A.units + 64 < cLine) : OpR X (compareOp .Gt) (rG X.bas gtD) := op_data hu fun pins σ s H P v u x y d e Q I sb rx ry hx hy ho => by
  obtain ⟨hc, ho⟩ := if_some ho
  obtain ⟨h1, h2, h3, h4⟩ := and3 hc
  obtain ⟨as, ra⟩ := hx.reads rfl I sb (sm_plain h3) rx
  obtain ⟨bs, rb⟩ := hy.reads rfl I sb (sm_plain h4) ry
  exact PySem.W.gt_data ra rb h1 (notNone_ne h2) (room_min hu (sm_depth h3)) (end_bl I sb ho)
theorem op_leDD (hu : X.A.units + 64 < cLine) : OpR X (compareOp .LtE) (rG X.bas leD) := op_data hu fun pins σ s H P v u x y d e Q I sb rx ry hx hy ho => by
  obtain ⟨hc, ho⟩ := if_some ho
  obtain ⟨h1, h2, h3, h4⟩ := and3 hc
  obtain ⟨as, ra⟩ := hx.reads rfl I sb (sm_plain h3) rx
  obtain ⟨bs, rb⟩ := hy.reads rfl I sb (sm_plain h4) ry
  exact PySem.W.le_data ra rb h1 (notNone_ne h2) (room_min hu (sm_depth h3)) (end_bl I sb ho)
theorem op_geDD (hu : X.A.units + 64 < cLine) : OpR X (compareOp .GtE) (rG X.bas geD) := op_data hu fun pins σ s H P v u x y d e Q I sb rx ry hx hy ho => by
  obtain ⟨hc, ho⟩ := if_some ho
  obtain ⟨h1, h2, h3, h4⟩ := and3 hc
  obtain ⟨as, ra⟩ := hx.reads rfl I sb (sm_plain h3) rx
  obtain ⟨bs, rb⟩ := hy.reads rfl I sb (sm_plain h4) ry
  exact PySem.W.ge_data ra rb h1 (notNone_ne h2) (room_min hu (sm_depth h3)) (end_bl I sb ho)
theorem eq_plainDD (hu : X.A.units + 64 < cLine) {pins : List (Addr × Obj)} {σ : Sg} {s : Shared} {H P : Hp} {v u : Value} {x y : V} {d e : D} {Q : VK} (I : Inv X pins σ H s) (sb : Sub P H) (rx : RelV x v) (ry : RelV y u) (hx : DR X.bas P H x d) (hy : DR X.bas P H y e)
    (ho : OpV X.bas P H (if sm d && sm e then bl (PyData.eqv d e) else none) Q) : wpAny (model X.prog X.w) X.A (compareOp .Eq v u) (EP X pins σ Q) X.xe s := by
  obtain ⟨hc, ho⟩ := if_some ho
  rw [Bool.and_eq_true] at hc
  obtain ⟨as, ra⟩ := hx.reads rfl I sb (sm_plain hc.1) rx
  obtain ⟨bs, rb⟩ := hy.reads rfl I sb (sm_plain hc.2) ry
  exact PySem.SeqAt.eq_plain ra rb (sm_plain hc.1) (sm_plain hc.2) (room_min hu (sm_depth hc.1)) (end_bl I sb ho)
theorem op_eqDD (hu : X.A.units + 64 < cLine) : OpR X (compareOp .Eq) (rG X.bas eqD) := op_data hu fun pins σ s H P v u x y d e Q I sb rx ry hx hy ho => eq_plainDD hu I sb rx ry hx hy ho
theorem op_neDD (hu : X.A.units + 64 < cLine) : OpR X (compareOp .NotEq) (rG X.bas neD) := op_data hu fun pins σ s H P v u x y d e Q I sb rx ry hx hy ho => by
  obtain ⟨hc, ho⟩ := if_some ho
  rw [Bool.and_eq_true] at hc
  obtain ⟨as, ra⟩ := hx.reads rfl I sb (sm_plain hc.1) rx
  obtain ⟨bs, rb⟩ := hy.reads rfl I sb (sm_plain hc.2) ry
  exact PySem.SeqAt.ne_plain ra rb (sm_plain hc.1) (sm_plain hc.2) (room_min hu (sm_depth hc.1)) (end_bl I sb ho)
theorem ref_of {K : Bas} {P H : Hp} {x : V} {d : D} (h : DR K P H x d) (hd : match d with | .list _ => True | .tuple _ => True | .dict _ => True | _ => False) : ∃ a, x = .ref a := by
  rcases h with h | ⟨a, rfl, _⟩
  · cases h with
    | non => exact hd.elim
    | bl b => exact hd.elim
    | int b => exact hd.elim
    | str b => exact hd.elim
    | lst _ _ => exact ⟨_, rfl⟩
    | tup _ _ => exact ⟨_, rfl⟩
    | dK _ _ => exact ⟨_, rfl⟩
    | dT _ _ _ => exact ⟨_, rfl⟩
  · exact ⟨a, rfl⟩
theorem none_iff {K : Bas} {P H : Hp} {x : V} : ∀ {d : D}, DR K P H x d → decide (x = .non) = !notNone d
  | .none, h => by rw [h.none]; rfl
  | .bool b, h => by rw [h.bool]; rfl
  | .int b, h => by rw [h.int]; rfl
  | .str b, h => by rw [h.str]; rfl
  | .list b, h => by obtain ⟨a, rfl⟩ := ref_of h trivial; rfl
  | .tuple b, h => by obtain ⟨a, rfl⟩ := ref_of h trivial; rfl
  | .dict b, h => by obtain ⟨a, rfl⟩ := ref_of h trivial; rfl
/-- a rule of values, used at data -/
theorem op_from {f : Value → Value → Sem Value} {r : R2} {g : D → D → Option (Bool × D)} (h : OpR X f r) (k : ∀ x y H Q P d e, Sub P H → DR X.bas P H x d → DR X.bas P H y e → OpV X.bas P H (g d e) Q → r x y H Q) : OpR X f (rG X.bas g) :=
  fun pins s σ H x y v u Q I rx ry ⟨P, d, e, sb, hx, hy, ho⟩ => h pins s σ H x y v u Q I rx ry (k x y H Q P d e sb hx hy ho)
theorem op_isDD : OpR X (compareOp .Is) (rG X.bas isD) := op_from (op_isN.or op_is_bl) fun x y H Q P d e sb hx hy ho => by
  cases e with
  | none => exact .inl ⟨hy.none, by rw [none_iff hx]; exact ho.atom sb (.bl _)⟩
  | bool b =>
    cases d with
    | bool a => exact .inr ⟨a, b, hx.bool, hy.bool, ho.atom sb (.bl _)⟩
    | none => exact ho.elim
    | int i => exact ho.elim
    | str i => exact ho.elim
    | list i => exact ho.elim
    | tuple i => exact ho.elim
    | dict i => exact ho.elim
  | int i => exact ho.elim
  | str i => exact ho.elim
  | list i => exact ho.elim
  | tuple i => exact ho.elim
  | dict i => exact ho.elim
theorem op_isNotDD : OpR X (compareOp .IsNot) (rG X.bas isNotD) := op_from (op_notN.or op_isnot_bl) fun x y H Q P d e sb hx hy ho => by
  cases e with
  | none => exact .inl ⟨hy.none, by rw [none_iff hx, Bool.not_not]; exact ho.atom sb (.bl _)⟩
  | bool b =>
    cases d with
    | bool a => exact .inr ⟨a, b, hx.bool, hy.bool, ho.atom sb (.bl _)⟩
    | none => exact ho.elim
    | int i => exact ho.elim
    | str i => exact ho.elim
    | list i => exact ho.elim
    | tuple i => exact ho.elim
    | dict i => exact ho.elim
  | int i => exact ho.elim
  | str i => exact ho.elim
  | list i => exact ho.elim
  | tuple i => exact ho.elim
  | dict i => exact ho.elim
end

/-! ### arithmetic -/
def iv (i : Int) : Option (Bool × D) := some (false, .int i)
/-- the most items -/
def line : Nat := 16777216
theorem line_eq : line = sizeLine := sizeLine_eq.symm
def addD (d e : D) : Option (Bool × D) := match d with
  | .int i => match e with
    | .int j => iv (i + j)
    | _ => none
  | .list xs => match e with
    | .list ys => if xs.length + ys.length ≤ line then some (true, .list (xs ++ ys)) else none
    | _ => none
  | .tuple xs => match e with
    | .tuple ys => if xs.length + ys.length ≤ line then some (false, .tuple (xs ++ ys)) else none
    | _ => none
  | _ => none
def subD (d e : D) : Option (Bool × D) := match d with
  | .int i => match e with
    | .int j => iv (i - j)
    | _ => none
  | _ => none
/-- factors of together less than a million bits; a list or a tuple some times -/
def mulD (d e : D) : Option (Bool × D) := match e with
  | .int j => match d with
    | .int i => if i.natAbs.log2 + j.natAbs.log2 < 1000000 then iv (i * j) else none
    | .list xs => if -(2 ^ 62) < j ∧ j < 2 ^ 62 ∧ xs.length * j.toNat ≤ line then some (true, .list (List.replicate j.toNat xs).flatten) else none
    | _ => none
  | _ => none
def fdivD (d e : D) : Option (Bool × D) := match d with
  | .int i => match e with
    | .int j => if 0 < j ∧ j.natAbs.log2 < 9000 then iv (i / j) else none
    | _ => none
  | _ => none
def modD (d e : D) : Option (Bool × D) := match d with
  | .int i => match e with
    | .int j => if 0 < j then iv (i % j) else none
    | _ => none
  | _ => none
def negD (d : D) : Option (Bool × D) := match d with
  | .int i => iv (-i)
  | _ => none
theorem if_prop {c : Prop} [Decidable c] {o : Option (Bool × D)} {K : Bas} {P H : Hp} {Q : VK} (h : OpV K P H (if c then o else none) Q) : c ∧ OpV K P H o Q := by
  by_cases hc : c
  · rw [if_pos hc] at h; exact ⟨hc, h⟩
  · rw [if_neg hc] at h; exact h.elim
theorem repL_nil {K : Bas} {P : Hp} {vs : List V} {ds : List D} (r : RepL K P vs ds) (h : vs = []) : ds = [] := by
  subst h; cases r; rfl
theorem repL_flat {K : Bas} {P : Hp} {vs : List V} {ds : List D} (r : RepL K P vs ds) : ∀ n : Nat, RepL K P (List.replicate n vs).flatten (List.replicate n ds).flatten
  | 0 => .nil
  | n + 1 => by
    rw [List.replicate_succ, List.replicate_succ, List.flatten_cons, List.flatten_cons]
    exact r.append (repL_flat r n)
section
variable {X : Cx}
theorem op_subDD : OpR X (binaryOp .Sub) (rG X.bas subD) := op_from op_sub fun x y H Q P d e sb hx hy ho => by
  cases d with
  | int i =>
    cases e with
    | int j => exact ⟨i, j, hx.int, hy.int, ho.atom sb (.int _)⟩
    | none => exact ho.elim
    | bool i => exact ho.elim
    | str i => exact ho.elim
    | list i => exact ho.elim
    | tuple i => exact ho.elim
    | dict i => exact ho.elim
  | none => exact ho.elim
  | bool i => exact ho.elim
  | str i => exact ho.elim
  | list i => exact ho.elim
  | tuple i => exact ho.elim
  | dict i => exact ho.elim
theorem op_fdivDD : OpR X (binaryOp .FloorDiv) (rG X.bas fdivD) := op_from op_fdivW fun x y H Q P d e sb hx hy ho => by
  cases d with
  | int i =>
    cases e with
    | int j => obtain ⟨hc, ho⟩ := if_prop ho; exact ⟨i, j, hx.int, hy.int, hc, ho.atom sb (.int _)⟩
    | none => exact ho.elim
    | bool i => exact ho.elim
    | str i => exact ho.elim
    | list i => exact ho.elim
    | tuple i => exact ho.elim
    | dict i => exact ho.elim
  | none => exact ho.elim
  | bool i => exact ho.elim
  | str i => exact ho.elim
  | list i => exact ho.elim
  | tuple i => exact ho.elim
  | dict i => exact ho.elim
theorem op_modDD : OpR X (binaryOp .Mod) (rG X.bas modD) := op_from op_mod fun x y H Q P d e sb hx hy ho => by
  cases d with
  | int i =>
    cases e with
    | int j => obtain ⟨hc, ho⟩ := if_prop ho; exact ⟨i, j, hx.int, hy.int, hc, ho.atom sb (.int _)⟩
    | none => exact ho.elim
    | bool i => exact ho.elim
    | str i => exact ho.elim
    | list i => exact ho.elim
    | tuple i => exact ho.elim
    | dict i => exact ho.elim
  | none => exact ho.elim
  | bool i => exact ho.elim
  | str i => exact ho.elim
  | list i => exact ho.elim
  | tuple i => exact ho.elim
  | dict i => exact ho.elim
theorem op_addDD : OpR X (binaryOp .Add) (rG X.bas addD) := op_from (op_add.or (op_cat.or op_catA)) fun x y H Q P d e sb hx hy ho => by
  cases d with
  | int i =>
    cases e with
    | int j => exact .inl ⟨i, j, hx.int, hy.int, ho.atom sb (.int _)⟩
    | none => exact ho.elim
    | bool i => exact ho.elim
    | str i => exact ho.elim
    | list i => exact ho.elim
    | tuple i => exact ho.elim
    | dict i => exact ho.elim
  | list xs =>
    cases e with
    | list ys =>
      obtain ⟨hc, ho⟩ := if_prop ho
      obtain ⟨a, vs, rfl, ha, ra⟩ := hx.list sb
      obtain ⟨b, ws, rfl, hb, rb⟩ := hy.list sb
      exact .inr (.inl ⟨a, b, vs, ws, rfl, rfl, ha, hb, by rw [ra.length, rb.length, ← line_eq]; exact hc, ho.newL sb (ra.append rb)⟩)
    | none => exact ho.elim
    | bool i => exact ho.elim
    | str i => exact ho.elim
    | int i => exact ho.elim
    | tuple i => exact ho.elim
    | dict i => exact ho.elim
  | tuple xs =>
    cases e with
    | tuple ys =>
      obtain ⟨hc, ho⟩ := if_prop ho
      obtain ⟨a, vs, rfl, pa, ha, ra⟩ := hx.tuple sb
      obtain ⟨b, ws, rfl, pb, hb, rb⟩ := hy.tuple sb
      refine .inr (.inr ⟨a, b, vs, ws, rfl, rfl, ha, hb, by rw [ra.length, rb.length, ← line_eq]; exact hc, fun z => ?_, fun _ z => ?_, fun _ _ => ho.newT sb (ra.append rb)⟩)
      · have e := repL_nil ra z
        subst e
        exact ho.atom sb (.tup pb rb)
      · have e := repL_nil rb z
        subst e
        rw [List.append_nil] at ho
        exact ho.atom sb (.tup pa ra)
    | none => exact ho.elim
    | bool i => exact ho.elim
    | str i => exact ho.elim
    | int i => exact ho.elim
    | list i => exact ho.elim
    | dict i => exact ho.elim
  | none => exact ho.elim
  | bool i => exact ho.elim
  | str i => exact ho.elim
  | dict i => exact ho.elim
theorem op_mulDD : OpR X (binaryOp .Mult) (rG X.bas mulD) := op_from (op_mulW.or op_rep) fun x y H Q P d e sb hx hy ho => by
  cases e with
  | int j =>
    cases d with
    | int i => obtain ⟨hc, ho⟩ := if_prop ho; exact .inl ⟨i, j, hx.int, hy.int, hc, ho.atom sb (.int _)⟩
    | list xs =>
      obtain ⟨⟨h1, h2, h3⟩, ho⟩ := if_prop ho
      obtain ⟨a, vs, rfl, ha, ra⟩ := hx.list sb
      exact .inr ⟨a, j, vs, rfl, hy.int, ha, by omega, by omega, by rw [ra.length, ← line_eq]; exact h3, ho.newL sb (repL_flat ra _)⟩
    | none => exact ho.elim
    | bool i => exact ho.elim
    | str i => exact ho.elim
    | tuple i => exact ho.elim
    | dict i => exact ho.elim
  | none => exact ho.elim
  | bool i => exact ho.elim
  | str i => exact ho.elim
  | list i => exact ho.elim
  | tuple i => exact ho.elim
  | dict i => exact ho.elim
theorem un_negDD : UnR X (unaryOp .USub) (rU1 X.bas negD) := fun pins s σ H x v Q I rx ⟨P, d, sb, hx, ho⟩ => un_neg pins s σ H x v Q I rx (by
  cases d with
  | int i => exact ⟨i, hx.int, ho.atom sb (.int _)⟩
  | none => exact ho.elim
  | bool i => exact ho.elim
  | str i => exact ho.elim
  | list i => exact ho.elim
  | tuple i => exact ho.elim
  | dict i => exact ho.elim)
end
end DL

/-! # DL, part 5: dicts by data: looked up, stored; in, subscripts, slices, len. -/
namespace DL
open PySem PySem.Spec PyProof.Rows L2

/-! ### keys -/
def atomKey : D → Option Key
  | .int i => some (.inl i)
  | .str x => some (.inr x)
  | _ => none
def atomKeys : List D → Option (List Key)
  | [] => some []
  | d :: ds => match atomKey d, atomKeys ds with
    | some k, some ks => some (k :: ks)
    | _, _ => none
def keyOf : D → Option (Key ⊕ List Key)
  | .tuple ds => (atomKeys ds).map .inr
  | d => (atomKey d).map .inl
theorem atomKey_keyD (k : Key) : atomKey (keyD k) = some k := by cases k <;> rfl
theorem atomKeys_map : ∀ ks : List Key, atomKeys (ks.map keyD) = some ks
  | [] => rfl
  | k :: ks => by
    rw [List.map_cons]
    unfold atomKeys
    rw [atomKey_keyD, atomKeys_map ks]
theorem keyOf_keyD (k : Key) : keyOf (keyD k) = some (.inl k) := by cases k <;> rfl
theorem keyOf_tup (ks : List Key) : keyOf (.tuple (ks.map keyD)) = some (.inr ks) := by
  show (atomKeys (ks.map keyD)).map Sum.inr = _
  rw [atomKeys_map]; rfl
theorem of_atomKey : ∀ {d : D} {k : Key}, atomKey d = some k → d = keyD k
  | .int i, _, h => by cases h; rfl
  | .str i, _, h => by cases h; rfl
  | .none, _, h => by cases h
  | .bool _, _, h => by cases h
  | .list _, _, h => by cases h
  | .tuple _, _, h => by cases h
  | .dict _, _, h => by cases h
theorem of_atomKeys : ∀ {ds : List D} {ks : List Key}, atomKeys ds = some ks → ds = ks.map keyD
  | [], ks, h => by cases h; rfl
  | d :: ds, ks, h => by
    unfold atomKeys at h
    cases e1 : atomKey d with
    | none => rw [e1] at h; cases h
    | some k =>
      rw [e1] at h
      cases e2 : atomKeys ds with
      | none => rw [e2] at h; cases h
      | some js =>
        rw [e2] at h
        cases h
        rw [List.map_cons, of_atomKey e1, of_atomKeys e2]
theorem of_keyOf {d : D} {z : Key ⊕ List Key} (h : keyOf d = some z) : (∃ k, z = .inl k ∧ d = keyD k) ∨ ∃ ks, z = .inr ks ∧ d = .tuple (ks.map keyD) := by
  cases d with
  | int i => cases h; exact .inl ⟨.inl i, rfl, rfl⟩
  | str i => cases h; exact .inl ⟨.inr i, rfl, rfl⟩
  | none => cases h
  | bool _ => cases h
  | list _ => cases h
  | dict _ => cases h
  | tuple ds =>
    change (atomKeys ds).map Sum.inr = _ at h
    cases e : atomKeys ds with
    | none => rw [e] at h; cases h
    | some ks => rw [e] at h; cases h; exact .inr ⟨ks, rfl, by rw [of_atomKeys e]⟩
theorem keyD_atom (k : Key) : ∃ q, atomKey (keyD k) = some q := ⟨k, atomKey_keyD k⟩
/-! ### lookup, store -/
def dfind (m : List (D × D)) (k : D) : Option D := (m.find? fun p => decide (keyOf p.1 = keyOf k)).map (·.2)
def dput (m : List (D × D)) (k v : D) : List (D × D) :=
  if (m.any fun p => decide (keyOf p.1 = keyOf k)) = true then m.map (fun p => if keyOf p.1 = keyOf k then (p.1, v) else p) else m ++ [(k, v)]
def ddrop (m : List (D × D)) (k : D) : List (D × D) := m.filter fun p => decide (keyOf p.1 ≠ keyOf k)
/-- of the kind that the dict's keys are -/
def keyFor (m : List (D × D)) (k : D) : Bool := match keyOf k with
  | some (.inl _) => match m with
    | [] => true
    | p :: _ => match atomKey p.1 with | some _ => true | none => false
  | some (.inr _) => match m with
    | [] => false
    | p :: _ => match atomKey p.1 with | some _ => false | none => true
  | none => false
theorem atom_tup (ds : List D) : atomKey (.tuple ds) = none := rfl
section
variable {K : Bas} {P : Hp}
theorem repK_find {k : Key} : ∀ {kvs : List (Key × V)} {m : List (D × D)}, RepK K P kvs m → (∃ v d, valV kvs k = some v ∧ dfind m (keyD k) = some d ∧ Rep K P v d) ∨ (valV kvs k = none ∧ dfind m (keyD k) = none)
  | _, _, .nil => .inr ⟨rfl, rfl⟩
  | (j, v) :: kvs, (_, d) :: m, .cons a t => by
    by_cases e : j = k
    · subst e
      exact .inl ⟨v, d, by simp [valV], by simp [dfind], a⟩
    · have h1 : valV ((j, v) :: kvs) k = valV kvs k := valV_neg e
      have h2 : dfind ((keyD j, d) :: m) (keyD k) = dfind m (keyD k) := by
        unfold dfind
        rw [List.find?_cons_of_neg]
        simp only [keyOf_keyD, Option.some.injEq, Sum.inl.injEq, decide_eq_true_eq]
        exact e
      rw [h1, h2]
      exact repK_find t
theorem repK_any {k : Key} : ∀ {kvs : List (Key × V)} {m : List (D × D)}, RepK K P kvs m → (kvs.any fun kv => decide (kv.1 = k)) = (m.any fun p => decide (keyOf p.1 = keyOf (keyD k)))
  | _, _, .nil => rfl
  | (j, v) :: kvs, (_, d) :: m, .cons a t => by
    rw [List.any_cons, List.any_cons, repK_any t]
    simp only [keyOf_keyD, Option.some.injEq, Sum.inl.injEq]
theorem repK_map {k : Key} {w : V} {e : D} (r : Rep K P w e) : ∀ {kvs : List (Key × V)} {m : List (D × D)}, RepK K P kvs m → RepK K P (kvs.map fun kv => if kv.1 = k then (kv.1, w) else kv) (m.map fun p => if keyOf p.1 = keyOf (keyD k) then (p.1, e) else p)
  | _, _, .nil => .nil
  | (j, v) :: kvs, (_, d) :: m, .cons a t => by
    rw [List.map_cons, List.map_cons]
    simp only [keyOf_keyD, Option.some.injEq, Sum.inl.injEq]
    by_cases h : j = k
    · rw [if_pos h, if_pos h]
      refine .cons r ?_
      have := repK_map r (k := k) t
      simp only [keyOf_keyD] at this
      exact this
    · rw [if_neg h, if_neg h]
      refine .cons a ?_
      have := repK_map r (k := k) t
      simp only [keyOf_keyD] at this
      exact this
theorem repK_snoc {k : Key} {w : V} {e : D} (r : Rep K P w e) : ∀ {kvs : List (Key × V)} {m : List (D × D)}, RepK K P kvs m → RepK K P (kvs ++ [(k, w)]) (m ++ [(keyD k, e)])
  | _, _, .nil => .cons r .nil
  | _, _, .cons a t => .cons a (repK_snoc r t)
theorem repK_put {k : Key} {w : V} {e : D} {kvs : List (Key × V)} {m : List (D × D)} (h : RepK K P kvs m) (r : Rep K P w e) : RepK K P (putK kvs k w) (dput m (keyD k) e) := by
  unfold putK dput
  rw [repK_any h]
  by_cases c : (m.any fun p => decide (keyOf p.1 = keyOf (keyD k))) = true
  · rw [if_pos c, if_pos c]; exact repK_map r h
  · rw [if_neg c, if_neg c]; exact repK_snoc r h
theorem repK_drop {k : Key} : ∀ {kvs : List (Key × V)} {m : List (D × D)}, RepK K P kvs m → RepK K P (dropK kvs k) (ddrop m (keyD k))
  | _, _, .nil => .nil
  | (j, v) :: kvs, (_, d) :: m, .cons a t => by
    have ih := repK_drop (k := k) t
    unfold dropK ddrop at ih ⊢
    rw [List.filter_cons, List.filter_cons]
    simp only [keyOf_keyD, Option.some.injEq, Sum.inl.injEq, decide_not, Bool.not_eq_true', decide_eq_false_iff_not, ne_eq] at ih ⊢
    by_cases h : j = k
    · simp only [h, not_true_eq_false, if_false, decide_true, Bool.not_true]; exact ih
    · simp only [h, not_false_eq_true, if_true]; exact .cons a ih
def valX (xs : List Ent) (k : List Key) : Option V := (xs.find? fun x => decide (x.1 = k)).map (·.2.2)
theorem repT_find {k : List Key} : ∀ {xs : List Ent} {m : List (D × D)}, RepT K P xs m → (∃ v d, valX xs k = some v ∧ dfind m (.tuple (k.map keyD)) = some d ∧ Rep K P v d) ∨ (valX xs k = none ∧ dfind m (.tuple (k.map keyD)) = none)
  | _, _, .nil => .inr ⟨rfl, rfl⟩
  | (j, b, v) :: xs, (_, d) :: m, .cons z a t => by
    by_cases e : j = k
    · subst e
      exact .inl ⟨v, d, by simp [valX], by simp [dfind], a⟩
    · have h1 : valX ((j, b, v) :: xs) k = valX xs k := by
        unfold valX
        rw [List.find?_cons_of_neg]
        simpa using e
      have h2 : dfind ((.tuple (j.map keyD), d) :: m) (.tuple (k.map keyD)) = dfind m (.tuple (k.map keyD)) := by
        unfold dfind
        rw [List.find?_cons_of_neg]
        simp only [keyOf_tup, Option.some.injEq, Sum.inr.injEq, decide_eq_true_eq]
        exact e
      rw [h1, h2]
      exact repT_find t
theorem repT_any {k : List Key} : ∀ {xs : List Ent} {m : List (D × D)}, RepT K P xs m → (xs.any fun x => decide (x.1 = k)) = (m.any fun p => decide (keyOf p.1 = keyOf (.tuple (k.map keyD))))
  | _, _, .nil => rfl
  | (j, b, v) :: xs, (_, d) :: m, .cons z a t => by
    rw [List.any_cons, List.any_cons, repT_any t]
    simp only [keyOf_tup, Option.some.injEq, Sum.inr.injEq]
def putX (xs : List Ent) (k : List Key) (b : Addr) (v : V) : List Ent :=
  if (xs.any fun x => decide (x.1 = k)) = true then xs.map (fun x => if x.1 = k then (x.1, x.2.1, v) else x) else xs ++ [(k, b, v)]
theorem repT_map {k : List Key} {w : V} {e : D} (r : Rep K P w e) : ∀ {xs : List Ent} {m : List (D × D)}, RepT K P xs m → RepT K P (xs.map fun x => if x.1 = k then (x.1, x.2.1, w) else x) (m.map fun p => if keyOf p.1 = keyOf (.tuple (k.map keyD)) then (p.1, e) else p)
  | _, _, .nil => .nil
  | (j, b, v) :: xs, (_, d) :: m, .cons z a t => by
    rw [List.map_cons, List.map_cons]
    have ih := repT_map r (k := k) t
    simp only [keyOf_tup, Option.some.injEq, Sum.inr.injEq] at ih ⊢
    by_cases h : j = k
    · rw [if_pos h, if_pos h]; exact .cons z r ih
    · rw [if_neg h, if_neg h]; exact .cons z a ih
theorem repT_snoc {k : List Key} {b : Addr} {w : V} {e : D} (z : SqT K.K P b (k.map kV)) (r : Rep K P w e) : ∀ {xs : List Ent} {m : List (D × D)}, RepT K P xs m → RepT K P (xs ++ [(k, b, w)]) (m ++ [(.tuple (k.map keyD), e)])
  | _, _, .nil => .cons z r .nil
  | _, _, .cons y a t => .cons y a (repT_snoc z r t)
theorem repT_put {k : List Key} {b : Addr} {w : V} {e : D} {xs : List Ent} {m : List (D × D)} (h : RepT K P xs m) (z : SqT K.K P b (k.map kV)) (r : Rep K P w e) : RepT K P (putX xs k b w) (dput m (.tuple (k.map keyD)) e) := by
  unfold putX dput
  rw [repT_any h]
  by_cases c : (m.any fun p => decide (keyOf p.1 = keyOf (.tuple (k.map keyD)))) = true
  · rw [if_pos c, if_pos c]; exact repT_map r h
  · rw [if_neg c, if_neg c]; exact repT_snoc z r h
theorem putX_ne {xs : List Ent} {k : List Key} {b : Addr} {v : V} : putX xs k b v ≠ [] := by
  unfold putX
  cases xs with
  | nil => simp
  | cons x xs => split <;> simp
theorem repT_headT {xs : List Ent} {m : List (D × D)} (h : RepT K P xs m) (n : xs ≠ []) : ∃ ks d r, m = (.tuple ks, d) :: r := by
  cases h with
  | nil => exact absurd rfl n
  | cons _ _ _ => exact ⟨_, _, _, rfl⟩
theorem repK_headK {kvs : List (Key × V)} {m : List (D × D)} (h : RepK K P kvs m) : m = [] ∨ ∃ k d r, m = (keyD k, d) :: r := by
  cases h with
  | nil => exact .inl rfl
  | cons _ _ => exact .inr ⟨_, _, _, rfl⟩
end

/-! ### the dict with tuple keys, by its own object -/
theorem relO_entX {xs : List Ent} {ys : List EntU} (r : EntR xs ys) (k : List Key) : RelO (valX xs k) ((atKey ys k).map (·.2)) := by
  induction r with
  | nil => exact True.intro
  | @cons x y xs ys h t ih =>
    obtain ⟨j, b, v⟩ := x
    obtain ⟨j', b', u⟩ := y
    obtain ⟨e1, e2, e3⟩ := h
    simp only at e1 e2 e3
    subst e1 e2
    unfold valX atKey at ih ⊢
    by_cases e : j = k
    · simp only [List.find?_cons, e, decide_true, Option.map_some]
      exact e3
    · simp only [List.find?_cons, e, decide_false]
      exact ih
section
variable {X : Cx} {pins : List (Addr × Obj)} {σ : Sg} {H P : Hp} {s : Shared} {a b : Addr} {xs : List Ent} {m : List (D × D)} {k : List Key} {A : Around} {E : Value → Shared → Prop}
theorem key_ofI {K : PySem.W.Frag} (hK : X.K = K) (I : Inv X pins σ H s) (h : SqT K H b (k.map kV)) : (tupleKind (mixKind X.prog X.w)).is s.heap k b := by
  subst hK
  obtain ⟨its, r, ⟨o, h1, h2, n, h5⟩, hz⟩ := I.tuple h
  exact ⟨o, its.toArray, n, h1, h2, h5, by simpa using items_are r⟩
theorem td_of (I : Inv X pins σ H s) (sb : Sub P H) (e : Rd H a (TD X.bas a xs)) (r : RepT X.bas P xs m) : xs.length ≤ sizeLine ∧ (a == sysModules) = false ∧ ∃ ys, EntR xs ys ∧ s.heap.DictOfH (tupleKind (mixKind X.prog X.w)) a ys := by
  have q : TDφ X.bas a xs s.heap := (show ObjOk X.prog X.w H s.heap a (TD X.bas a xs) from rd_of I.hok e).1
  obtain ⟨z, y, ys, rel, o, es, ep, h1, h2, h3, h4, h5⟩ := q
  refine ⟨z, y, ys, rel, o, es, ep, h1, h2, h3, h4, ?_, h5⟩
  clear h1 h2 h3 h4 h5 z y e
  revert m
  induction rel with
  | nil => intro m _ x hx; exact nomatch hx
  | @cons p q ps qs hq t ih =>
    intro m r x hx
    cases r with
    | cons z a' t' =>
      rcases List.mem_cons.mp hx with e | hx
      · subst e
        rw [← hq.1, ← hq.2.1]
        exact key_ofI rfl I (sqT_sub sb z)
      · exact ih t' x hx
theorem td_getItem {v : V} {Q : Value → Shared → Prop} (hu : A.units + 1 < cLine) (I : Inv X pins σ H s) (sb : Sub P H) (e : Rd H a (TD X.bas a xs)) (r : RepT X.bas P xs m) (eb : SqT X.K H b (k.map kV)) (l : valX xs k = some v)
    (h : ∀ w' s', Inv X pins σ H s' → RelV v w' → Q w' s') : wpAny (model X.prog X.w) A (getItem (.ref a) (.ref b)) Q E s := by
  obtain ⟨z, hd, ys, rel, dd⟩ := td_of I sb e r
  obtain ⟨w', hw, rw'⟩ := RelO.some_of (v := v) (o := (atKey ys k).map (·.2)) (by rw [← l]; exact relO_entX rel k)
  obtain ⟨p, hp, hp2⟩ := Option.map_eq_some_iff.mp hw
  refine wpAny_getItem_heap (tupleKind_room_in1 hu) (key_ofI rfl I eb) dd hp ?_
  rw [hp2]
  exact h w' _ (I.tok _) rw'
theorem td_in {Q : Value → Shared → Prop} (hu : A.units + 1 < cLine) (I : Inv X pins σ H s) (sb : Sub P H) (e : Rd H a (TD X.bas a xs)) (r : RepT X.bas P xs m) (eb : SqT X.K H b (k.map kV))
    (h : ∀ s', Inv X pins σ H s' → Q (.bool (valX xs k).isSome) s') : wpAny (model X.prog X.w) A (compareOp .In (.ref b) (.ref a)) Q E s := by
  obtain ⟨z, hd, ys, rel, dd⟩ := td_of I sb e r
  refine wpAny_in_heap (tupleKind_room_in1 hu) (key_ofI rfl I eb) hd dd ?_
  have q := (relO_entX rel k).isSome_eq
  rw [Option.isSome_map] at q
  rw [← q]
  exact h _ (I.tok _)
theorem td_notIn {Q : Value → Shared → Prop} (hu : A.units + 1 < cLine) (I : Inv X pins σ H s) (sb : Sub P H) (e : Rd H a (TD X.bas a xs)) (r : RepT X.bas P xs m) (eb : SqT X.K H b (k.map kV))
    (h : ∀ s', Inv X pins σ H s' → Q (.bool (!(valX xs k).isSome)) s') : wpAny (model X.prog X.w) A (compareOp .NotIn (.ref b) (.ref a)) Q E s := by
  obtain ⟨z, hd, ys, rel, dd⟩ := td_of I sb e r
  refine wpAny_notIn_heap (tupleKind_room_in1 hu) (key_ofI rfl I eb) hd dd ?_
  have q := (relO_entX rel k).isSome_eq
  rw [Option.isSome_map] at q
  rw [← q]
  exact h _ (I.tok _)
theorem entR_put {v : V} {u : Value} (rv : RelV v u) {ys : List EntU} (r : EntR xs ys) : EntR (putX xs k b v) (storedH ys k b u) := by
  have hany : (xs.any fun x => decide (x.1 = k)) = (atKey ys k).isSome := by
    have q := (relO_entX r k).isSome_eq
    rw [Option.isSome_map] at q
    rw [← q]
    clear q
    induction r with
    | nil => rfl
    | @cons x y xs ys h t ih =>
      unfold valX at ih ⊢
      rw [List.any_cons]
      by_cases e : x.1 = k
      · simp [e]
      · simp only [List.find?_cons, e, decide_false, Bool.false_or]; exact ih
  have hmap : EntR (xs.map fun x => if x.1 = k then (x.1, x.2.1, v) else x) (ys.map (putAt k u)) := by
    clear hany
    induction r with
    | nil => exact .nil
    | @cons x y xs ys h t ih =>
      refine .cons ?_ ih
      obtain ⟨e1, e2, e3⟩ := h
      by_cases hk : x.1 = k
      · have hk' : y.1 = k := by rw [← e1]; exact hk
        simp only [putAt, if_pos hk, if_pos hk']; exact ⟨e1, e2, rv⟩
      · have hk' : ¬ y.1 = k := by rw [← e1]; exact hk
        simp only [putAt, if_neg hk, if_neg hk']; exact ⟨e1, e2, e3⟩
  unfold putX storedH
  by_cases c : (xs.any fun x => decide (x.1 = k)) = true
  · rw [if_pos c, if_pos (by rw [← hany]; exact c)]; exact hmap
  · rw [if_neg c, if_neg (by rw [← hany]; exact c)]; exact Paired.snoc r ⟨rfl, rfl, rv⟩
theorem putX_len {v : V} : (putX xs k b v).length ≤ xs.length + 1 := by
  unfold putX
  split
  · rw [List.length_map]; omega
  · rw [List.length_append]; exact Nat.le_refl _
/-- a dict with tuple keys is right -/
theorem td_new {H' : Hp} {h' : Heap} {ys : List EntU} (z : xs.length ≤ sizeLine) (hd : (a == sysModules) = false) (rel : EntR xs ys) (dd : h'.DictOfH (tupleKind (mixKind X.prog X.w)) a ys) : ObjOk X.prog X.w H' h' a (TD X.bas a xs) := by
  obtain ⟨o, es, ep, h1, h2, h3, h4, _, h5⟩ := dd
  refine ⟨⟨z, hd, ys, rel, o, es, ep, h1, h2, h3, h4, h5⟩, ⟨o, h1⟩, fun g1 g2 ⟨z, y, ys, rel, o, es, ep, k1, k2, k3, k4, k5⟩ st => ⟨z, y, ys, rel, o, es, ep, st o k1, k2, k3, k4, k5⟩⟩
theorem td_setItem {v : V} {r : Value} {Q : Unit → Shared → Prop} (hu : A.units + 1 < cLine) (I : Inv X pins σ H s) (sb : Sub P H) (e : H a = some (TD X.bas a xs)) (rt : RepT X.bas P xs m) (eb : SqT X.K H b (k.map kV)) (hl : xs.length < sizeLine) (rv : RelV v r)
    (h : ∀ s', Inv X pins σ (upd H a (TD X.bas a (putX xs k b v))) s' → Q () s') : wpAny (model X.prog X.w) A (setItem (.ref a) (.ref b) r) Q E s := by
  obtain ⟨z, hd, ys, rel, dd⟩ := td_of I sb (.inl e) rt
  have hz : ys.length ≤ sizeLine := by rw [← Paired.length rel]; exact z
  have hl' : (putX xs k b v).length ≤ sizeLine := Nat.le_trans putX_len hl
  refine wpAny_setItem_heap (hsz := hz) (tupleKind_room_in1 hu) (key_ofI rfl I eb) dd fun h' dd' hs => h _ ?_
  have he : ∃ q, h'.get? a = some q := let ⟨q, _, _, hq, _⟩ := dd'; ⟨q, hq⟩
  exact d_write I (by rw [e]; exact True.intro) hs he (td_new hl' hd (entR_put rv rel) dd')
/-- an empty dict is one with tuple keys, too -/
theorem Inv.toT (I : Inv X pins σ H s) (e : H a = some (.dK [])) : Inv X pins σ (upd H a (TD X.bas a [])) s := by
  obtain ⟨z, hd, vs, rel, o, es, ep, h1, h2, h3, h4, h5⟩ := dk_of I.hok e
  cases rel
  refine I.write (x := a) (e := a) (t' := s.toks) (h' := s.heap) (by rw [e]; exact True.intro) (.inl rfl) (fun b v _ q => q) ⟨o, h1⟩ ?_
  refine td_new (X := X) (ys := []) (Nat.zero_le _) hd .nil ⟨o, es, ep, h1, h2, h3, ?_, (fun x hx => nomatch hx), List.nodup_nil⟩
  exact List.eq_nil_of_length_eq_zero h5.1.length
end
end DL

/-! # DL, part 6: in, subscripts, slices, len and other built-ins, by data. -/
namespace DL
open PySem PySem.Spec PyProof.Rows L2

/-! ### subscripts -/
def ixD (d e : D) : Option (Bool × D) := match d with
  | .list xs => match e with
    | .int i => (atI xs i).map fun z => (false, z)
    | _ => none
  | .tuple xs => match e with
    | .int i => (atI xs i).map fun z => (false, z)
    | _ => none
  | .dict m => if keyFor m e = true then (dfind m e).map fun z => (false, z) else none
  | _ => none
theorem repL_keys {K : Bas} {P : Hp} : ∀ {ks : List Key} {vs : List V}, RepL K P vs (ks.map keyD) → vs = ks.map kV
  | [], _, h => by cases h; rfl
  | k :: ks, _, h => by
    rw [List.map_cons] at h
    cases h with
    | cons r1 r2 =>
      rw [List.map_cons, ← repL_keys r2]
      congr 1
      cases k with
      | inl i => cases r1; rfl
      | inr i => cases r1; rfl
theorem keyFor_cases {K : Bas} {P H : Hp} {x y : V} {m : List (D × D)} {k : D} (sb : Sub P H) (hx : DR K P H x (.dict m)) (hy : DR K P H y k) (h : keyFor m k = true) :
    (∃ a j kvs, x = .ref a ∧ y = kV j ∧ k = keyD j ∧ Rd H a (.dK kvs) ∧ RepK K P kvs m) ∨ ∃ (a b : Addr) (ks : List Key) (xs : List Ent), x = .ref a ∧ y = .ref b ∧ k = .tuple (ks.map keyD) ∧ SqT K.K P b (ks.map kV) ∧ Rd H a (TD K a xs) ∧ RepT K P xs m := by
  obtain ⟨a, rfl, hd⟩ := hx.dict sb
  unfold keyFor at h
  cases e : keyOf k with
  | none => rw [e] at h; cases h
  | some z =>
    rw [e] at h
    rcases of_keyOf e with ⟨j, rfl, rfl⟩ | ⟨ks, rfl, rfl⟩
    · left
      rcases hd with ⟨kvs, r, rk⟩ | ⟨xs, r, ne, rt⟩
      · refine ⟨a, j, kvs, rfl, ?_, rfl, r, rk⟩
        cases j with
        | inl i => exact hy.int
        | inr i => exact hy.str
      · obtain ⟨ks, d, r', rfl⟩ := repT_headT rt ne
        cases h
    · right
      rcases hd with ⟨kvs, r, rk⟩ | ⟨xs, r, ne, rt⟩
      · rcases repK_headK rk with rfl | ⟨j, d, r', rfl⟩
        · cases h
        · simp only [atomKey_keyD] at h; cases h
      · obtain ⟨b, vs, rfl, pb, _, rb⟩ := hy.tuple sb
        have := repL_keys rb
        subst this
        exact ⟨a, b, ks, xs, rfl, rfl, rfl, pb, r, rt⟩
section
variable {prog : Program} {w : World} {A : Around} {E : Value → Shared → Prop} {s : Shared}
theorem subTail_of {value slice : Expr} {o i : Value} {T id : String} {Q : Value → Shared → Prop} (hT : s.TypeIs o T) (hl : typeLookup (.type T) "__getitem__" = pure (some (.builtin id))) (h : wpAny (model prog w) A (getItem o i) Q E s)
    (hs : subscripted slice false o i = operate [o, i] (getItem o i)) : wpAny (model prog w) A (subscriptTail value slice o i) Q E s := by
  unfold subscriptTail
  refine wpAny_bind ?_
  rw [getitemInPython_of_ne hT.not_modules]
  refine wpAny_bind (wpAny_specialOf hT hl ?_)
  have fin : wpAny (model prog w) A (subscripted slice false o i) (fun r s₃ => wpAny (model prog w) A (letTemporaryGo value o r >>= fun _ => pure r) Q E s₃) E s := by
    rw [hs]
    exact wpAny_operating (wpAny_mono h (fun r s₃ h₃ => wpAny_bind (wpAny_letTemporaryGo (wpAny_pure h₃))) fun _ _ x => x)
  exact wpAny_pure (wpAny_bind fin)
end
section
variable {X : Cx}
theorem dk_type {pins : List (Addr × Obj)} {σ : Sg} {H : Hp} {s : Shared} {a : Addr} {kvs : List (Key × V)} (I : Inv X pins σ H s) (e : Rd H a (.dK kvs)) : s.TypeIs (.ref a) "dict" := by
  obtain ⟨z, hd, vs, r, o, es, ep, h1, h2, _⟩ := dk_rd I.hok e
  exact ⟨o, h1, h2.1⟩
theorem td_type {pins : List (Addr × Obj)} {σ : Sg} {H : Hp} {s : Shared} {a : Addr} {xs : List Ent} (I : Inv X pins σ H s) (e : Rd H a (TD X.bas a xs)) : s.TypeIs (.ref a) "dict" := by
  obtain ⟨z, y, ys, rel, o, es, ep, h1, h2, _⟩ : TDφ X.bas a xs s.heap := (show ObjOk X.prog X.w H s.heap a (TD X.bas a xs) from rd_of I.hok e).1
  exact ⟨o, h1, h2.1⟩
theorem ix_dict (hu : X.A.units + 64 < cLine) : IxR X (fun x y H Q => ∃ P m k d, Sub P H ∧ DR X.bas P H x (.dict m) ∧ DR X.bas P H y k ∧ keyFor m k = true ∧ dfind m k = some d ∧ ∀ v, Rep X.bas P v d → Q v H) := by
  intro value slice pins s σ H x y v u Q I rx ry ⟨P, m, k, d, sb, hx, hy, hk, hf, q⟩ hs
  rcases keyFor_cases sb hx hy hk with ⟨a, j, kvs, rfl, rfl, rfl, r, rk⟩ | ⟨a, b, ks, xs, rfl, rfl, rfl, pb, r, rt⟩
  · obtain rfl : v = Value.ref a := rx
    rcases repK_find (k := j) rk with ⟨w, d', e1, e2, r'⟩ | ⟨_, e2⟩
    · rw [hf] at e2; cases e2
      exact subTail_of (dk_type I r) PySem.F.slot_dict_getitem.lookup (d_getItem (by omega) I (.inl ⟨kvs, j, r, rfl, e1.symm⟩) ry fun w' s' I' rw' => ⟨w, H, I', rw', q w r'⟩) hs
    · rw [hf] at e2; cases e2
  · obtain rfl : v = Value.ref a := rx
    obtain rfl : u = Value.ref b := ry
    rcases repT_find (k := ks) rt with ⟨w, d', e1, e2, r'⟩ | ⟨_, e2⟩
    · rw [hf] at e2; cases e2
      exact subTail_of (td_type I r) PySem.F.slot_dict_getitem.lookup (td_getItem (by omega) I sb r rt (sqT_sub sb pb) e1 fun w' s' I' rw' => ⟨w, H, I', rw', q w r'⟩) hs
    · rw [hf] at e2; cases e2
theorem atI_rep {K : Bas} {P : Hp} {vs : List V} {ds : List D} {i : Int} {d : D} (r : RepL K P vs ds) (h : atI ds i = some d) : ∃ v, atI vs i = some v ∧ Rep K P v d := by
  unfold atI at h ⊢
  rw [r.length]
  cases e : ixN ds.length i with
  | none => rw [e] at h; cases h
  | some j => rw [e] at h; exact r.get' h
theorem map_some {o : Option D} {K : Bas} {P H : Hp} {Q : VK} (h : OpV K P H (o.map fun z => (false, z)) Q) : ∃ d, o = some d ∧ OpV K P H (some (false, d)) Q := by
  cases o with
  | none => exact h.elim
  | some d => exact ⟨d, rfl, h⟩
theorem ix_DD (hu : X.A.units + 64 < cLine) : IxR X (rG X.bas ixD) := by
  intro value slice pins s σ H x y v u Q I rx ry ⟨P, d, e, sb, hx, hy, ho⟩ hs
  refine (ix_list.or (ix_tup.or (ix_dict hu))) value slice pins s σ H x y v u Q I rx ry ?_ hs
  cases d with
  | list xs =>
    cases e with
    | int i =>
      obtain ⟨z, ez, ho⟩ := map_some ho
      obtain ⟨a, vs, rfl, ha, ra⟩ := hx.list sb
      obtain ⟨w, ew, rw'⟩ := atI_rep ra ez
      exact .inl ⟨a, vs, i, w, rfl, hy.int, .inl (.inl ha), ew, ho.atom sb rw'⟩
    | none => exact ho.elim
    | bool i => exact ho.elim
    | str i => exact ho.elim
    | list i => exact ho.elim
    | tuple i => exact ho.elim
    | dict i => exact ho.elim
  | tuple xs =>
    cases e with
    | int i =>
      obtain ⟨z, ez, ho⟩ := map_some ho
      obtain ⟨a, vs, rfl, _, ha, ra⟩ := hx.tuple sb
      obtain ⟨w, ew, rw'⟩ := atI_rep ra ez
      exact .inr (.inl ⟨a, vs, i, w, rfl, hy.int, ha, ew, ho.atom sb rw'⟩)
    | none => exact ho.elim
    | bool i => exact ho.elim
    | str i => exact ho.elim
    | list i => exact ho.elim
    | tuple i => exact ho.elim
    | dict i => exact ho.elim
  | dict m =>
    obtain ⟨hc, ho⟩ := if_prop ho
    obtain ⟨z, ez, ho⟩ := map_some ho
    exact .inr (.inr ⟨P, m, e, z, sb, hx, hy, hc, ez, fun v r => ho.atom sb r⟩)
  | none => exact ho.elim
  | bool i => exact ho.elim
  | str i => exact ho.elim
  | int i => exact ho.elim
/-! ### in, not in -/
def inB (neg : Bool) (d e : D) : Option (Bool × D) := match e with
  | .list ys => if sm d && sm (.list ys) then bl (neg ^^ ys.any fun y => PyData.eqv y d) else none
  | .tuple ys => if sm d && sm (.tuple ys) then bl (neg ^^ ys.any fun y => PyData.eqv y d) else none
  | .dict m => if keyFor m d then bl (neg ^^ (dfind m d).isSome) else none
  | _ => none
def inD (d e : D) : Option (Bool × D) := inB false d e
def notInD (d e : D) : Option (Bool × D) := inB true d e
theorem room_in {n a b : Nat} (hu : n + 64 < cLine) (h : b ≤ 30) : n + 1 + min a b < cLine := by
  have := Nat.min_le_right a b
  omega
theorem find_some {K : Bas} {P : Hp} {j : Key} {kvs : List (Key × V)} {m : List (D × D)} (rk : RepK K P kvs m) : (valV kvs j).isSome = (dfind m (keyD j)).isSome := by
  rcases repK_find (k := j) rk with ⟨w, d', e1, e2, r'⟩ | ⟨e1, e2⟩ <;> rw [e1, e2] <;> rfl
theorem find_someT {K : Bas} {P : Hp} {j : List Key} {kvs : List Ent} {m : List (D × D)} (rk : RepT K P kvs m) : (valX kvs j).isSome = (dfind m (.tuple (j.map keyD))).isSome := by
  rcases repT_find (k := j) rk with ⟨w, d', e1, e2, r'⟩ | ⟨e1, e2⟩ <;> rw [e1, e2] <;> rfl
theorem plainL {ys : List D} (h : sm (.list ys) = true) : PyData.plainAll ys = true := by simpa only [PyData.plain] using sm_plain h
theorem plainT {ys : List D} (h : sm (.tuple ys) = true) : PyData.plainAll ys = true := by simpa only [PyData.plain] using sm_plain h
theorem op_inDD (hu : X.A.units + 64 < cLine) : OpR X (compareOp .In) (rG X.bas inD) := op_data hu fun pins σ s H P v u x y d e Q I sb rx ry hx hy ho => by
  cases e with
  | list ys =>
    obtain ⟨hc, ho⟩ := if_some ho
    rw [Bool.and_eq_true] at hc
    obtain ⟨as, ra⟩ := hx.reads rfl I sb (sm_plain hc.1) rx
    obtain ⟨bs, rb⟩ := hy.reads rfl I sb (sm_plain hc.2) ry
    rw [Bool.false_xor] at ho
    exact PySem.SeqAt.in_list_data rb ra (plainL hc.2) (sm_plain hc.1) (room_in hu (sm_depth hc.1)) (end_bl I sb ho)
  | tuple ys =>
    obtain ⟨hc, ho⟩ := if_some ho
    rw [Bool.and_eq_true] at hc
    obtain ⟨as, ra⟩ := hx.reads rfl I sb (sm_plain hc.1) rx
    obtain ⟨bs, rb⟩ := hy.reads rfl I sb (sm_plain hc.2) ry
    rw [Bool.false_xor] at ho
    exact PySem.SeqAt.in_tuple_data rb ra (plainT hc.2) (sm_plain hc.1) (room_in hu (sm_depth hc.1)) (end_bl I sb ho)
  | dict m =>
    obtain ⟨hc, ho⟩ := if_some ho
    rw [Bool.false_xor] at ho
    rcases keyFor_cases sb hy hx hc with ⟨a, j, kvs, rfl, rfl, rfl, r, rk⟩ | ⟨a, b, ks, xs, rfl, rfl, rfl, pb, r, rt⟩
    · obtain rfl : u = Value.ref a := ry
      refine d_in (by omega) I (.inl ⟨kvs, j, r, rfl, rfl⟩) rx fun s' I' => ?_
      rw [find_some rk]
      exact end_bl I' sb ho
    · obtain rfl : u = Value.ref a := ry
      obtain rfl : v = Value.ref b := rx
      refine td_in (by omega) I sb r rt (sqT_sub sb pb) fun s' I' => ?_
      rw [find_someT rt]
      exact end_bl I' sb ho
  | none => exact ho.elim
  | bool i => exact ho.elim
  | str i => exact ho.elim
  | int i => exact ho.elim
theorem op_notInDD (hu : X.A.units + 64 < cLine) : OpR X (compareOp .NotIn) (rG X.bas notInD) := op_data hu fun pins σ s H P v u x y d e Q I sb rx ry hx hy ho => by
  cases e with
  | list ys =>
    obtain ⟨hc, ho⟩ := if_some ho
    rw [Bool.and_eq_true] at hc
    obtain ⟨as, ra⟩ := hx.reads rfl I sb (sm_plain hc.1) rx
    obtain ⟨bs, rb⟩ := hy.reads rfl I sb (sm_plain hc.2) ry
    rw [Bool.true_xor] at ho
    exact PySem.SeqAt.notIn_list_data rb ra (plainL hc.2) (sm_plain hc.1) (room_in hu (sm_depth hc.1)) (end_bl I sb ho)
  | tuple ys =>
    obtain ⟨hc, ho⟩ := if_some ho
    rw [Bool.and_eq_true] at hc
    obtain ⟨as, ra⟩ := hx.reads rfl I sb (sm_plain hc.1) rx
    obtain ⟨bs, rb⟩ := hy.reads rfl I sb (sm_plain hc.2) ry
    rw [Bool.true_xor] at ho
    exact PySem.SeqAt.notIn_tuple_data rb ra (plainT hc.2) (sm_plain hc.1) (room_in hu (sm_depth hc.1)) (end_bl I sb ho)
  | dict m =>
    obtain ⟨hc, ho⟩ := if_some ho
    rw [Bool.true_xor] at ho
    rcases keyFor_cases sb hy hx hc with ⟨a, j, kvs, rfl, rfl, rfl, r, rk⟩ | ⟨a, b, ks, xs, rfl, rfl, rfl, pb, r, rt⟩
    · obtain rfl : u = Value.ref a := ry
      refine d_notIn (by omega) I (.inl ⟨kvs, j, r, rfl, rfl⟩) rx fun s' I' => ?_
      rw [find_some rk]
      exact end_bl I' sb ho
    · obtain rfl : u = Value.ref a := ry
      obtain rfl : v = Value.ref b := rx
      refine td_notIn (by omega) I sb r rt (sqT_sub sb pb) fun s' I' => ?_
      rw [find_someT rt]
      exact end_bl I' sb ho
  | none => exact ho.elim
  | bool i => exact ho.elim
  | str i => exact ho.elim
  | int i => exact ho.elim
/-! ### slices -/
def partD : Option D → Option (Option Int)
  | none => some none
  | some (.int i) => some (some i)
  | _ => none
def cutD {α : Type} (xs : List α) (lo hi : Option Int) : List α := (xs.drop (HT.sIx xs.length 0 lo)).take (HT.sIx xs.length xs.length hi - HT.sIx xs.length 0 lo)
def sliceD (d : D) (lo hi : Option Int) : Option (Bool × D) := match d with
  | .list xs => some (true, .list (cutD xs lo hi))
  | .tuple xs => some (false, .tuple (cutD xs lo hi))
  | _ => none
theorem cut_rep {K : Bas} {P : Hp} {vs : List V} {ds : List D} (r : RepL K P vs ds) (lo hi : Option Int) : RepL K P (cutV vs lo hi) (cutD ds lo hi) := by
  unfold cutV cutD
  rw [r.length]
  exact (r.drop _).take _
theorem sIx_le' (n : Nat) (o : Option Int) : HT.sIx n n o ≤ n := HT.sIx_le n n (Nat.le_refl _) o
theorem cut_all {α : Type} {xs : List α} {lo hi : Option Int} (h : HT.sIx xs.length 0 lo = 0 ∧ HT.sIx xs.length xs.length hi = xs.length) : cutD xs lo hi = xs := by
  unfold cutD
  rw [h.1, h.2, List.drop_zero, Nat.sub_zero, List.take_length]
def rSlD (K : Bas) : V → Option Int → Option Int → Hp → VK → Prop := fun x lo hi H Q => ∃ P d, Sub P H ∧ DR K P H x d ∧ OpV K P H (sliceD d lo hi) Q
theorem sl_DD : SlR X (rSlD X.bas) := by
  intro pins s σ H x v vl vu lo hi sl Q I rx hs pl pu ⟨P, d, sb, hx, ho⟩
  refine (sl_list.or sl_tupA) pins s σ H x v vl vu lo hi sl Q I rx hs pl pu ?_
  cases d with
  | list xs =>
    obtain ⟨a, vs, rfl, ha, ra⟩ := hx.list sb
    exact .inl ⟨a, vs, rfl, .inl (.inl ha), ho.newL sb (cut_rep ra lo hi)⟩
  | tuple xs =>
    obtain ⟨a, vs, rfl, pa, ha, ra⟩ := hx.tuple sb
    refine .inr ⟨a, vs, rfl, ha, fun z => ?_, fun _ => ho.newT sb (cut_rep ra lo hi)⟩
    change OpV X.bas P H (some (false, .tuple (cutD xs lo hi))) Q at ho
    rw [ra.length] at z
    rw [cut_all z] at ho
    exact ho.atom sb (.tup pa ra)
  | dict m => exact ho.elim
  | none => exact ho.elim
  | bool i => exact ho.elim
  | str i => exact ho.elim
  | int i => exact ho.elim
variable {W : WX} {e a b : Expr} {fa fb fc : M R} {pos p2 : Pos} {lo hi : Option Expr}
/-- a slice's part -/
abbrev oD (K : Bas) (mg : Str → Option Value) (W : WX) (f : M (Option Int)) : TO := fun σ H Q => gD (β := Option Int) K mg W (fun _ _ _ _ _ v o => v = o) f σ H Q
def noPart : M (Option Int) := pureM none
def intR : R → M (Option Int)
  | .val (.int i) => pureM (some i)
  | _ => badM
def part (f : M R) : M (Option Int) := bindM f intR
theorem do_none : PO X none (oD X.bas X.mg W noPart) := ⟨fun pins s σ H Q I ⟨P, δ, S, h⟩ => po_none.run pins s σ H Q I (h none H P S (Stp.refl _ _ _ _) rfl)⟩
theorem do_some (ha : PE X e (eD X.bas X.mg W fa)) : PO X (some e) (oD X.bas X.mg W (part fa)) := ⟨fun pins s σ H Q I hq => (po_some ha).run pins s σ H Q I (gD.bind (fun _ _ _ _ _ _ _ _ _ h => h) hq fun r δ1 v H1 P1 δ P e1 S S1 s1 r1 q => by
  cases r with
  | val d =>
    cases d with
    | int i => cases r1; exact ⟨i, rfl, gK.pure q S1 rfl⟩
    | none => exact q.elim
    | bool b => exact q.elim
    | str b => exact q.elim
    | list b => exact q.elim
    | tuple b => exact q.elim
    | dict b => exact q.elim
  | new d => exact q.elim
  | slot i => exact q.elim)⟩
def sliceM (fa : M R) (fl fh : M (Option Int)) : M R := bindM fa fun r => bindM fl fun l => bindM fh fun h => bindM (datM r) fun d => optR (sliceD d l h)
theorem de_slice {fl fh : M (Option Int)} (he : PE X e (eD X.bas X.mg W fa)) (hl : PO X lo (oD X.bas X.mg W fl)) (hu : PO X hi (oD X.bas X.mg W fh)) : PE X (.Subscript e (.Slice lo hi none p2) pos) (eD X.bas X.mg W (sliceM fa fl fh)) :=
  PE.mono (pe_slice sl_DD he hl hu) fun σ H Q h => gD.bind rE_up h fun r δ1 v H1 P1 δ P e1 S S1 s1 r1 q =>
    ⟨P1, δ1, S1, gK.bind rE_up q fun l δ2 v2 H2 P2 e2 S2 s2 r2 q => ⟨P2, δ2, S2, gK.bind rE_up q fun h δ3 v3 H3 P3 e3 S3 s3 r3 q => by
      cases r2; cases r3
      obtain ⟨d, ed, q⟩ := gK.dat q
      exact ⟨P3, d, S3.ph, RRep.dr r1 (s2.trans s3) S3 ed, gK.opt q S3⟩⟩⟩
end
end DL

/-! # DL, part 7: statements, targets, loops. -/
namespace DL
open PySem PySem.Spec PyProof.Rows L2

/-! ### statements -/
inductive SRes where
  | nx (δ : DEnv)
  | rt (fr : Bool) (d : D) (δ : DEnv)
  | bk (δ : DEnv)
  | ct (δ : DEnv)
  | ex (x : Exc) (δ : DEnv)
  | bad
abbrev SM := DEnv → SRes
/-- a value that is handed back -/
def RetR (K : Bas) (σ : Sg) (δ : DEnv) (H : Hp) (P' H' : Hp) (σ' : Sg) (δ' : DEnv) (v : V) (fr : Bool) (d : D) : Prop :=
  if fr = true then ∃ a, v = .ref a ∧ (Adr σ δ .own a ∨ H a = none) ∧ P' a = none ∧ ¬ Adr σ' δ' .own a ∧ ¬ Adr σ' δ' .bor a ∧ OwnR K P' H' a d else Rep K P' v d
def sK (K : Bas) (mg : Str → Option Value) (W : WX) (r : SRes) (σ : Sg) (δ : DEnv) (P H : Hp) (Dn : Ends) : Prop := match r with
  | .nx δ' => ∀ σ' H' P', SR K P' H' σ' δ' → Stp σ δ P H σ' δ' P' H' → Dn.nx σ' H'
  | .bk δ' => ∀ σ' H' P', SR K P' H' σ' δ' → Stp σ δ P H σ' δ' P' H' → Dn.bk σ' H'
  | .ct δ' => ∀ σ' H' P', SR K P' H' σ' δ' → Stp σ δ P H σ' δ' P' H' → Dn.ct σ' H'
  | .rt fr d δ' => ∀ v σ' H' P', SR K P' H' σ' δ' → Stp σ δ P H σ' δ' P' H' → RetR K σ δ H P' H' σ' δ' v fr d → Dn.rt v H'
  | .ex x δ' => ∀ cls d σ' H' P', SR K P' H' σ' δ' → Stp σ δ P H σ' δ' P' H' → ExR K mg P' H' cls d x → W cls d σ' H'
  | .bad => False
def sD (K : Bas) (mg : Str → Option Value) (W : WX) (t : SM) : TS := fun Dn σ H => ∃ P δ, SR K P H σ δ ∧ sK K mg W (t δ) σ δ P H Dn
/-- a later state -/
theorem RetR.back {K : Bas} {σ σ1 σ' : Sg} {δ δ1 δ' : DEnv} {P H P1 H1 P' H' : Hp} {v : V} {fr : Bool} {d : D} (s : Stp σ δ P H σ1 δ1 P1 H1) (h : RetR K σ1 δ1 H1 P' H' σ' δ' v fr d) : RetR K σ δ H P' H' σ' δ' v fr d := by
  unfold RetR at h ⊢
  by_cases c : fr = true
  · rw [if_pos c] at h ⊢
    obtain ⟨a, e, h1, r⟩ := h
    refine ⟨a, e, ?_, r⟩
    rcases h1 with h1 | h1
    · exact s.own a h1
    · exact .inr (live_back s h1)
  · rw [if_neg c] at h ⊢; exact h
theorem sK.back {K : Bas} {mg : Str → Option Value} {W : WX} {r : SRes} {σ σ1 : Sg} {δ δ1 : DEnv} {P H P1 H1 : Hp} {Dn : Ends} (s : Stp σ δ P H σ1 δ1 P1 H1) (h : sK K mg W r σ δ P H Dn) : sK K mg W r σ1 δ1 P1 H1 Dn := by
  cases r with
  | nx δ' => exact fun σ' H' P' S t => h σ' H' P' S (s.trans t)
  | bk δ' => exact fun σ' H' P' S t => h σ' H' P' S (s.trans t)
  | ct δ' => exact fun σ' H' P' S t => h σ' H' P' S (s.trans t)
  | rt fr d δ' => exact fun v σ' H' P' S t q => h v σ' H' P' S (s.trans t) (RetR.back s q)
  | ex x δ' => exact fun c d σ' H' P' S t q => h c d σ' H' P' S (s.trans t) q
  | bad => exact h
def ofRes {α : Type} (r : Res α) (k : α → DEnv → SRes) : SRes := match r with
  | .ok a δ => k a δ
  | .ex x δ => .ex x δ
  | .bad => .bad
def passS : SM := fun δ => .nx δ
def seqS (t u : SM) : SM := fun δ => match t δ with
  | .nx δ' => u δ'
  | r => r
def exprS (f : M R) : SM := fun δ => ofRes (f δ) fun _ δ' => .nx δ'
def ifS (c : M Bool) (t u : SM) : SM := fun δ => ofRes (c δ) fun b δ' => if b = true then t δ' else u δ'
def retS (f : M R) : SM := fun δ => ofRes (f δ) fun r δ' => match r with
  | .val d => .rt false d δ'
  | .new d => .rt true d δ'
  | .slot i => match δ'[i]? with
    | some (some (.own, d)) => .rt true d (δ'.set i none)
    | _ => .bad
section
variable {X : Cx} {W : WX}
/-- from an expression to what a statement does with it -/
theorem ofRes_gK {K : Bas} {mg : Str → Option Value} {α β : Type} {rel : Rl β α} {r : Res α} {k : α → DEnv → SRes} {σ : Sg} {δ : DEnv} {P H : Hp} {Dn : Ends} {Q : β → Hp → Prop} (h : sK K mg W (ofRes r k) σ δ P H Dn)
    (q : ∀ a δ1 v H1 P1, SR K P1 H1 σ δ1 → Stp σ δ P H σ δ1 P1 H1 → rel H P1 H1 σ δ1 v a → sK K mg W (k a δ1) σ δ P H Dn → Q v H1) : gK K mg W rel r σ δ P H Q := by
  cases r with
  | ok a δ1 => exact fun v H1 P1 S1 s1 r1 => q a δ1 v H1 P1 S1 s1 r1 h
  | ex x δ1 => exact fun c d H1 P1 S1 s1 r1 => h c d σ H1 P1 S1 s1 r1
  | bad => exact h
theorem ofRes_gD {K : Bas} {mg : Str → Option Value} {α β : Type} {rel : Rl β α} {f : M α} {k : α → DEnv → SRes} {σ : Sg} {H : Hp} {Dn : Ends} {Q : β → Hp → Prop} (h : sD K mg W (fun δ => ofRes (f δ) k) Dn σ H)
    (q : ∀ a δ1 v H1 P1 δ P, SR K P H σ δ → SR K P1 H1 σ δ1 → Stp σ δ P H σ δ1 P1 H1 → rel H P1 H1 σ δ1 v a → sK K mg W (k a δ1) σ δ P H Dn → Q v H1) : gD K mg W rel f σ H Q := by
  obtain ⟨P, δ, S, h⟩ := h
  exact ⟨P, δ, S, ofRes_gK h fun a δ1 v H1 P1 S1 s1 r1 => q a δ1 v H1 P1 δ P S S1 s1 r1⟩
variable {st : Stmt} {rest : List Stmt} {t u : SM} {e c : Expr} {f : M R} {pos : Pos}
theorem ds_pass : PS X (.Pass pos) (sD X.bas X.mg W passS) := PS.mono ps_pass fun D σ H ⟨P, δ, S, h⟩ => h σ H P S (Stp.refl _ _ _ _)
theorem ds_nil : PSs X [] (sD X.bas X.mg W passS) := PSs.mono pss_nil fun D σ H ⟨P, δ, S, h⟩ => h σ H P S (Stp.refl _ _ _ _)
theorem ds_cons (h1 : PS X st (sD X.bas X.mg W t)) (h2 : PSs X rest (sD X.bas X.mg W u)) : PSs X (st :: rest) (sD X.bas X.mg W (seqS t u)) :=
  PSs.mono (pss_cons h1 h2) fun D σ H ⟨P, δ, S, h⟩ => ⟨P, δ, S, by
    unfold seqS at h
    cases e : t δ with
    | nx δ1 => rw [e] at h; exact fun σ1 H1 P1 S1 s1 => ⟨P1, δ1, S1, sK.back s1 h⟩
    | bk δ1 => rw [e] at h; exact h
    | ct δ1 => rw [e] at h; exact h
    | rt fr d δ1 => rw [e] at h; exact h
    | ex x δ1 => rw [e] at h; exact h
    | bad => rw [e] at h; exact h⟩
theorem ds_expr (he : PE X e (eD X.bas X.mg W f)) (hs : swapsWith e none pos.line X.env = pure false) : PS X (.Expr e pos) (sD X.bas X.mg W (exprS f)) :=
  PS.mono (ps_expr he hs) fun D σ H h => ofRes_gD h fun a δ1 v H1 P1 δ P S S1 s1 r1 q => q σ H1 P1 S1 s1
theorem ds_if {b : M Bool} {p q : List Stmt} (hc : PT X c (bD X.bas X.mg W b)) (ha : PSs X p (sD X.bas X.mg W t)) (hb : PSs X q (sD X.bas X.mg W u)) : PS X (.If c p q pos) (sD X.bas X.mg W (ifS b t u)) :=
  PS.mono (ps_if hc ha hb) fun D σ H h => ofRes_gD h fun a δ1 v H1 P1 δ P S S1 s1 r1 q => by
    cases r1
    by_cases hv : a = true
    · rw [if_pos hv] at q ⊢; exact ⟨P1, δ1, S1, sK.back s1 q⟩
    · rw [if_neg hv] at q ⊢; exact ⟨P1, δ1, S1, sK.back s1 q⟩
theorem at_none {δ : DEnv} {i j : Nat} {k : Kd} {d : D} (h : At (δ.set i none) j k d) : j ≠ i ∧ At δ j k d := by
  unfold At at h
  by_cases hj : i = j
  · subst hj
    by_cases hi : i < δ.length
    · rw [List.getElem?_set_self hi] at h; cases h
    · rw [List.getElem?_eq_none (by simpa using hi)] at h; cases h
  · rw [List.getElem?_set_ne hj] at h; exact ⟨fun z => hj z.symm, h⟩
/-- a slot forgotten -/
theorem SR.drop {K : Bas} {P H : Hp} {σ : Sg} {δ : DEnv} (S : SR K P H σ δ) (i : Nat) : SR K P H σ (δ.set i none) :=
  ⟨by rw [List.length_set]; exact S.len, S.ph, fun j k d h => S.sl j k d (at_none h).2, fun i j k l d e a h1 h2 => S.inj i j k l d e a (at_none h1).2 (at_none h2).2⟩
theorem Stp.drop {σ σ1 : Sg} {δ δ1 : DEnv} {P H P1 H1 : Hp} (s : Stp σ δ P H σ1 δ1 P1 H1) (i : Nat) (n : ∀ d, ¬ At δ1 i .bor d) : Stp σ δ P H σ1 (δ1.set i none) P1 H1 :=
  ⟨s.keep, s.pkeep, s.live, s.sub, fun b ⟨j, d, h, q⟩ => s.own b ⟨j, d, (at_none h).2, q⟩, fun j d h => by
    obtain ⟨⟨d', h'⟩, q⟩ := s.bor j d h
    exact ⟨⟨d', at_set_ne (fun z => by subst z; exact n d' h') h'⟩, q⟩, fun j d h => s.borB j d (at_none h).2⟩
theorem ds_ret (he : PE X e (eD X.bas X.mg W f)) : PS X (.Return (some e) pos) (sD X.bas X.mg W (retS f)) :=
  PS.mono (ps_ret he) fun D σ H h => ofRes_gD h fun a δ1 v H1 P1 δ P S S1 s1 r1 q => by
    cases a with
    | val d => exact q v σ H1 P1 S1 s1 (by unfold RetR; rw [if_neg Bool.false_ne_true]; exact r1)
    | new d => obtain ⟨a, e, n0, np, no, nb, o⟩ := r1; exact q v σ H1 P1 S1 s1 (by unfold RetR; rw [if_pos rfl]; exact ⟨a, e, .inr n0, np, no, nb, o⟩)
    | slot i =>
      obtain ⟨k0, d0, h0, hk0, e0⟩ := r1
      have h0' : δ1[i]? = some (some (k0, d0)) := h0
      change sK X.bas X.mg W (match δ1[i]? with | some (some (.own, d)) => .rt true d (δ1.set i none) | _ => .bad) σ δ P H D at q
      rw [h0'] at q
      cases k0 with
      | pers => exact absurd rfl hk0
      | bor => exact q.elim
      | lck => exact q.elim
      | own =>
        obtain ⟨w, ew, a, ea, na, o⟩ := S1.sl i .own d0 h0
        rw [e0] at ew; cases ew; subst ea
        have nb : ∀ d, ¬ At δ1 i .bor d := fun d z => by rw [show δ1[i]? = some (some (.bor, d)) from z] at h0'; cases h0'
        refine q _ σ H1 P1 (S1.drop i) (s1.drop i nb) ?_
        unfold RetR
        rw [if_pos rfl]
        refine ⟨a, rfl, s1.own a ⟨i, d0, h0, e0⟩, na, fun ⟨j, d, z, y⟩ => ?_, fun ⟨j, d, z, y⟩ => ?_, o⟩
        · exact (at_none z).1 (S1.inj j i .own .own d d0 a (at_none z).2 h0 (by decide) (by decide) y e0)
        · exact (at_none z).1 (S1.inj j i .bor .own d d0 a (at_none z).2 h0 (by decide) (by decide) y e0)
theorem ds_retN : PS X (.Return none pos) (sD X.bas X.mg W (retS (conM .none))) :=
  PS.mono ps_retN fun D σ H ⟨P, δ, S, h⟩ => h .non σ H P S (Stp.refl _ _ _ _) (by unfold RetR; rw [if_neg Bool.false_ne_true]; exact .non)

/-! ### stores of names -/
/-- may be stored anew -/
def free (δ : DEnv) (i : Nat) : Bool := match δ[i]? with
  | some (some (.bor, _)) => false
  | some (some (.lck, _)) => false
  | some _ => true
  | none => false
theorem free_at {δ : DEnv} {i : Nat} (h : free δ i = true) : i < δ.length ∧ ∀ k d, At δ i k d → k ≠ .bor ∧ k ≠ .lck := by
  unfold free at h
  cases e : δ[i]? with
  | none => rw [e] at h; cases h
  | some o =>
    refine ⟨(List.getElem?_eq_some_iff.mp e).1, fun k d z => ?_⟩
    have z' : δ[i]? = some (some (k, d)) := z
    rw [z'] at h
    cases k <;> first | (exact ⟨by decide, by decide⟩) | cases h
def tgN (i : Nat) (d : D) : DEnv → Option DEnv := fun δ => if free δ i = true then some (δ.set i (some (.pers, d))) else none
/-- a store of a persistent value, or of one's own -/
theorem SR.store {K : Bas} {P H : Hp} {σ : Sg} {δ : DEnv} (S : SR K P H σ δ) {i : Nat} {k : Kd} {v : V} {d : D} (hi : i < δ.length) (sl : SlotR K P H k v d) (hk : k ≠ .pers → ∀ a, v = .ref a → ∀ j l e, At δ j l e → l ≠ .pers → j ≠ i → σ[j]? ≠ some (some (.ref a))) : SR K P H (σ.set i (some v)) (δ.set i (some (k, d))) := by
  have hs : i < σ.length := by rw [S.len]; exact hi
  refine ⟨by rw [List.length_set, List.length_set]; exact S.len, S.ph, fun j l e h => ?_, fun j1 j2 l1 l2 e1 e2 a h1 h2 n1 n2 q1 q2 => ?_⟩
  · rcases at_set h with ⟨rfl, rfl, rfl, _⟩ | ⟨ne, h⟩
    · exact ⟨v, by rw [List.getElem?_set_self hs], sl⟩
    · rw [List.getElem?_set_ne (fun z => ne z.symm)]; exact S.sl j l e h
  · rcases at_set h1 with ⟨e1', f1, g1, _⟩ | ⟨ne1, m1⟩
    · rcases at_set h2 with ⟨e2', _, _, _⟩ | ⟨ne2, m2⟩
      · rw [e1', e2']
      · rw [e1', List.getElem?_set_self hs] at q1; cases q1
        rw [List.getElem?_set_ne (fun z => ne2 z.symm)] at q2
        exact absurd q2 (hk (by rw [← f1]; exact n1) a rfl j2 l2 e2 m2 n2 ne2)
    · rcases at_set h2 with ⟨e2', f2, _, _⟩ | ⟨ne2, m2⟩
      · rw [e2', List.getElem?_set_self hs] at q2; cases q2
        rw [List.getElem?_set_ne (fun z => ne1 z.symm)] at q1
        exact absurd q1 (hk (by rw [← f2]; exact n2) a rfl j1 l1 e1 m1 n1 ne1)
      · rw [List.getElem?_set_ne (fun z => ne1 z.symm)] at q1
        rw [List.getElem?_set_ne (fun z => ne2 z.symm)] at q2
        exact S.inj j1 j2 l1 l2 e1 e2 a m1 m2 n1 n2 q1 q2
theorem Stp.store {σ σ1 : Sg} {δ δ1 : DEnv} {P H P1 H1 : Hp} (s : Stp σ δ P H σ1 δ1 P1 H1) {i : Nat} {k : Kd} {v : V} {d : D} (hl : σ1.length = δ1.length) (hf : ∀ d, ¬ At δ1 i .bor d) (kb : k ≠ .bor) (hk : k = .own → ∀ a, v = .ref a → Adr σ δ .own a ∨ H a = none) : Stp σ δ P H (σ1.set i (some v)) (δ1.set i (some (k, d))) P1 H1 := by
  refine ⟨s.keep, s.pkeep, s.live, s.sub, fun b ⟨j, e, h, q⟩ => ?_, fun j e h => ?_, fun j e h => ?_⟩
  · rcases at_set h with ⟨rfl, rfl, rfl, hi⟩ | ⟨ne, h⟩
    · rw [List.getElem?_set_self (by rw [hl]; exact hi)] at q; cases q
      exact hk rfl b rfl
    · rw [List.getElem?_set_ne (fun z => ne z.symm)] at q
      exact s.own b ⟨j, e, h, q⟩
  · obtain ⟨⟨d', h'⟩, q⟩ := s.bor j e h
    have ne : j ≠ i := fun z => by subst z; exact hf d' h'
    exact ⟨⟨d', at_set_ne ne h'⟩, by rw [List.getElem?_set_ne (fun z => ne z.symm)]; exact q⟩
  · rcases at_set h with ⟨_, z, _, _⟩ | ⟨_, h⟩
    · exact absurd z.symm kb
    · exact s.borB j e h
end
end DL

/-! # DL, part 8: stores, targets, loops, calls. -/
namespace DL
open PySem PySem.Spec PyProof.Rows L2

/-- what is in a slot is made persistent; a new thing stays one's own -/
def mvR : R → M R
  | .slot i => fun δ => match δ[i]? with
    | some (some (.own, d)) => .ok (.val d) (δ.set i (some (.pers, d)))
    | _ => .bad
  | r => pureM r
def mvM (f : M R) : M R := bindM f mvR
section
variable {X : Cx} {W : WX} {a b c e : Expr} {es : List Expr} {f fa fb fc : M R} {pos : Pos}
theorem de_mv (he : PE X e (eD X.bas X.mg W f)) : PE X e (eD X.bas X.mg W (mvM f)) :=
  PE.ghost he fun σ H Q ⟨P, δ, S, h⟩ => ⟨P, δ, S, by
    unfold mvM bindM at h
    cases e : f δ with
    | bad => rw [e] at h; exact h
    | ex x δ1 => rw [e] at h; exact h
    | ok r δ1 =>
      rw [e] at h
      intro v H1 P1 S1 st1 rr pins s I
      cases r with
      | val d => exact ⟨H1, I, h v H1 P1 S1 st1 rr⟩
      | new d => exact ⟨H1, I, h v H1 P1 S1 st1 rr⟩
      | slot i =>
        refine pers_res (W := W) I S1 st1 rr ?_
        change gK X.bas X.mg W (rE X.bas) (match δ1[i]? with | some (some (.own, d)) => .ok (.val d) (δ1.set i (some (.pers, d))) | _ => .bad) σ δ P H Q at h
        change gK X.bas X.mg W (rP X.bas) (match δ1[i]? with | some (some (.own, d)) => .ok d (δ1.set i (some (.pers, d))) | _ => .bad) σ δ P H Q
        cases e3 : δ1[i]? with
        | none => rw [e3] at h; exact h
        | some o =>
          cases o with
          | none => rw [e3] at h; exact h
          | some p =>
            obtain ⟨k, d⟩ := p
            rw [e3] at h
            cases k with
            | own => exact h
            | pers => exact h
            | bor => exact h
            | lck => exact h⟩
/-- name = e -/
def putO (i : Nat) : R → DEnv → Option DEnv
  | .val d, δ => if free δ i = true then some (δ.set i (some (.pers, d))) else none
  | .new d, δ => if free δ i = true then some (δ.set i (some (.own, d))) else none
  | .slot _, _ => none
def nxO : Option DEnv → SRes
  | some δ => .nx δ
  | none => .bad
def putR (i : Nat) (r : R) (δ : DEnv) : SRes := nxO (putO i r δ)
def setS (i : Nat) (f : M R) : SM := fun δ => ofRes (mvM f δ) (putR i)
theorem sK_if {K : Bas} {mg : Str → Option Value} {c : Bool} {r : SRes} {σ : Sg} {δ : DEnv} {P H : Hp} {Dn : Ends} (h : sK K mg W (if c = true then r else .bad) σ δ P H Dn) : c = true ∧ sK K mg W r σ δ P H Dn := by
  by_cases hc : c = true
  · rw [if_pos hc] at h; exact ⟨hc, h⟩
  · rw [if_neg hc] at h; exact h.elim
theorem putO_ok {K : Bas} {i : Nat} {r : R} {σ0 σ : Sg} {δ δ1 δ3 : DEnv} {P H P1 H1 H0 : Hp} {v : V} (S1 : SR K P1 H1 σ δ1) (s1 : Stp σ0 δ P H σ δ1 P1 H1) (hH : ∀ b, H0 b = none → H b = none) (r1 : RRep K H0 P1 H1 σ δ1 v r) (q : putO i r δ1 = some δ3) :
    SR K P1 H1 (σ.set i (some v)) δ3 ∧ Stp σ0 δ P H (σ.set i (some v)) δ3 P1 H1 ∧ ((∃ d, r = .val d ∧ δ3 = δ1.set i (some (.pers, d))) ∨ ∃ d, r = .new d ∧ δ3 = δ1.set i (some (.own, d))) := by
  cases r with
  | slot j => cases q
  | val d =>
    change (if free δ1 i = true then some (δ1.set i (some (.pers, d))) else none) = some δ3 at q
    by_cases hf : free δ1 i = true
    · rw [if_pos hf] at q
      cases q
      obtain ⟨hi, hk⟩ := free_at hf
      exact ⟨S1.store hi (k := .pers) r1 fun z => absurd rfl z, s1.store S1.len (fun d z => (hk _ d z).1 rfl) (by decide) (fun z => nomatch z), .inl ⟨d, rfl, rfl⟩⟩
    · rw [if_neg hf] at q; cases q
  | new d =>
    change (if free δ1 i = true then some (δ1.set i (some (.own, d))) else none) = some δ3 at q
    by_cases hf : free δ1 i = true
    · rw [if_pos hf] at q
      cases q
      obtain ⟨hi, hk⟩ := free_at hf
      obtain ⟨a, rfl, n0, np, no, nb, o⟩ := r1
      refine ⟨S1.store hi (k := .own) ⟨a, rfl, np, o⟩ fun _ b e j l d' h hl hj z => ?_, s1.store S1.len (fun d z => (hk _ d z).1 rfl) (by decide) fun _ b e => ?_, .inr ⟨d, rfl, rfl⟩⟩
      · cases e
        cases l with
        | pers => exact hl rfl
        | own => exact no ⟨j, d', h, z⟩
        | bor => exact nb ⟨j, d', h, z⟩
        | lck =>
          obtain ⟨w, ew, b, eb, _, lk⟩ := S1.sl j .lck d' h
          rw [z] at ew; cases ew; cases eb
          exact not_lck o lk
      · cases e; exact .inr (hH _ n0)
    · rw [if_neg hf] at q; cases q
theorem put_ok {K : Bas} {mg : Str → Option Value} {i : Nat} {r : R} {σ : Sg} {δ δ1 : DEnv} {P H P1 H1 : Hp} {v : V} {D : Ends} (S1 : SR K P1 H1 σ δ1) (s1 : Stp σ δ P H σ δ1 P1 H1) (r1 : RRep K H P1 H1 σ δ1 v r) (q : sK K mg W (putR i r δ1) σ δ P H D) : D.nx (σ.set i (some v)) H1 := by
  unfold putR at q
  cases e : putO i r δ1 with
  | none => rw [e] at q; exact q.elim
  | some δ3 =>
    rw [e] at q
    obtain ⟨S3, s3, _⟩ := putO_ok S1 s1 (fun _ z => z) r1 e
    exact q _ H1 P1 S3 s3
theorem ds_set {i : Nat} {x : Str} {pos' : Pos} (hN : X.N.Nodup) (hi : X.N[i]? = some x) (hx : Loc X.env.scope x) (he : PE X e (eD X.bas X.mg W f)) (hs : swapsWith e (some (.Name x pos')) pos.line X.env = pure false) (hf : X.fn x = true ∨ X.env.scope.names.lookup x = some .local) :
    PS X (.Assign [.Name x pos'] e pos) (sD X.bas X.mg W (setS i f)) :=
  PS.mono (ps_set hN hi hx (de_mv he) hs hf) fun D σ H h => ofRes_gD h fun r δ1 v H1 P1 δ P S S1 s1 r1 q => put_ok S1 s1 r1 q

/-! ### targets of persistent data -/
abbrev TgM := D → DEnv → Option DEnv
/-- nothing but these slots stored -/
def Frm (ts : List Nat) (σ σ' : Sg) : Prop := σ'.length = σ.length ∧ ∀ j, j ∉ ts → σ'[j]? = σ[j]?
theorem Frm.trans {ts : List Nat} {σ σ1 σ2 : Sg} (a : Frm ts σ σ1) (b : Frm ts σ1 σ2) : Frm ts σ σ2 := ⟨b.1.trans a.1, fun j hj => (b.2 j hj).trans (a.2 j hj)⟩
def gDt (K : Bas) (ts : List Nat) (g : TgM) : TG := fun v σ H Q => ∃ P δ d, SR K P H σ δ ∧ Rep K P v d ∧ match g d δ with
  | some δ' => ∀ σ' H' P', SR K P' H' σ' δ' → Stp σ δ P H σ' δ' P' H' → Frm ts σ σ' → Q σ' H'
  | none => False
def gDts (K : Bas) (ts : List Nat) (g : List D → DEnv → Option DEnv) : TGs := fun vs σ H Q => ∃ P δ ds, SR K P H σ δ ∧ RepL K P vs ds ∧ match g ds δ with
  | some δ' => ∀ σ' H' P', SR K P' H' σ' δ' → Stp σ δ P H σ' δ' P' H' → Frm ts σ σ' → Q σ' H'
  | none => False
theorem PG.mono {tg : Expr} {t t' : TG} (h : PG X tg t) (k : ∀ v σ H Q, t' v σ H Q → t v σ H Q) : PG X tg t' := ⟨fun pins s σ H v u Q I r hw => h.run pins s σ H v u Q I r (k v σ H Q hw)⟩
theorem PGs.mono {tg : List Expr} {t t' : TGs} (h : PGs X tg t) (k : ∀ v σ H Q, t' v σ H Q → t v σ H Q) : PGs X tg t' := ⟨fun pins s σ H v u Q I r hw => h.run pins s σ H v u Q I r (k v σ H Q hw)⟩
theorem dg_name {i : Nat} {x : Str} (hN : X.N.Nodup) (hi : X.N[i]? = some x) (hx : Loc X.env.scope x) (hf : X.fn x = true ∨ X.env.scope.names.lookup x = some .local) {ts : List Nat} (ht : i ∈ ts) : PG X (.Name x pos) (gDt X.bas ts (tgN i)) :=
  PG.mono (pg_name hN hi hx hf) fun v σ H Q ⟨P, δ, d, S, r, h⟩ => by
    unfold tgN at h
    by_cases c : free δ i = true
    · rw [if_pos c] at h
      obtain ⟨hi, hk⟩ := free_at c
      exact h _ H P (S.store hi (k := .pers) r fun z => absurd rfl z) ((Stp.refl _ _ _ _).store S.len (fun d z => (hk _ d z).1 rfl) (by decide) fun z => nomatch z) ⟨List.length_set, fun j hj => List.getElem?_set_ne fun z : i = j => hj (z ▸ ht)⟩
    · rw [if_neg c] at h; exact h.elim
def tgNil : List D → DEnv → Option DEnv
  | [], δ => some δ
  | _, _ => none
def tgCons (g : TgM) (r : List D → DEnv → Option DEnv) : List D → DEnv → Option DEnv
  | d :: ds, δ => (g d δ).bind (r ds)
  | _, _ => none
/-- unpacking a tuple or a list -/
def tgT (r : List D → DEnv → Option DEnv) : TgM
  | .tuple ds, δ => r ds δ
  | .list ds, δ => r ds δ
  | _, _ => none
theorem dgs_nil {ts : List Nat} : PGs X [] (gDts X.bas ts tgNil) := PGs.mono pgs_nil fun v σ H Q ⟨P, δ, ds, S, r, h⟩ => by
  cases r with
  | nil => exact ⟨rfl, h σ H P S (Stp.refl _ _ _ _) ⟨rfl, fun _ _ => rfl⟩⟩
  | cons _ _ => exact h.elim
theorem dgs_cons {ts : List Nat} {g : TgM} {r : List D → DEnv → Option DEnv} (h1 : PG X e (gDt X.bas ts g)) (h2 : PGs X es (gDts X.bas ts r)) (hs : (assignEach (e :: es) X.env).map (·.2) = assign e X.env :: (assignEach es X.env).map (·.2)) : PGs X (e :: es) (gDts X.bas ts (tgCons g r)) :=
  PGs.mono (pgs_cons h1 h2 hs) fun v σ H Q ⟨P, δ, ds, S, rl, h⟩ => by
    cases rl with
    | nil => exact h.elim
    | @cons w ws d ds' r1 r2 =>
      refine ⟨w, ws, rfl, P, δ, d, S, r1, ?_⟩
      change match (g d δ).bind (r ds') with | some δ' => _ | none => False at h
      cases eg : g d δ with
      | none => rw [eg] at h; exact h.elim
      | some δ1 =>
        rw [eg] at h
        intro σ1 H1 P1 S1 s1 f1
        refine ⟨P1, δ1, ds', S1, r2.sub s1.sub, ?_⟩
        change match r ds' δ1 with | some δ' => _ | none => False at h
        cases er : r ds' δ1 with
        | none => rw [er] at h; exact h.elim
        | some δ2 => rw [er] at h; exact fun σ2 H2 P2 S2 s2 f2 => h σ2 H2 P2 S2 (s1.trans s2) (f1.trans f2)
/-- a target list takes so many -/
def TgLen (r : List D → DEnv → Option DEnv) (n : Nat) : Prop := ∀ ds δ δ', r ds δ = some δ' → ds.length = n
theorem tgLen_nil : TgLen tgNil 0 := fun ds δ δ' h => by cases ds with | nil => rfl | cons _ _ => cases h
theorem tgLen_cons {g : TgM} {r : List D → DEnv → Option DEnv} {n : Nat} (h : TgLen r n) : TgLen (tgCons g r) (n + 1) := fun ds δ δ' e => by
  cases ds with
  | nil => cases e
  | cons d ds =>
    change (g d δ).bind (r ds) = some δ' at e
    cases eg : g d δ with
    | none => rw [eg] at e; cases e
    | some δ1 => rw [eg] at e; rw [List.length_cons, h ds δ1 δ' e]
theorem PG.or {tg : Expr} {t t' : TG} (h : PG X tg t) (h' : PG X tg t') : PG X tg (fun v σ H Q => t v σ H Q ∨ t' v σ H Q) := ⟨fun pins s σ H v u Q I r hw => hw.elim (h.run pins s σ H v u Q I r) (h'.run pins s σ H v u Q I r)⟩
theorem dg_tup {ts : List Nat} {k n : Nat} {r : List D → DEnv → Option DEnv} (hc : X.calm = true) (h : PGs X es (gDts X.bas ts r)) (hl : TgLen r n) (hn : (assignEach es X.env).length = n) (hst : (assignEach es X.env).findIdx? (·.1) = none) : PG X (.Tuple es k pos) (gDt X.bas ts (tgT r)) :=
  PG.mono (PG.or (pg_tup (k := k) (pos := pos) hc h hn hst) (pg_unl (k := k) (pos := pos) hc h hn hst)) fun v σ H Q ⟨P, δ, d, S, rr, h⟩ => by
    have fin : ∀ {vs : List V} {ds : List D}, RepL X.bas P vs ds → (match r ds δ with | some δ' => ∀ σ' H' P', SR X.bas P' H' σ' δ' → Stp σ δ P H σ' δ' P' H' → Frm ts σ σ' → Q σ' H' | none => False) → vs.length = n ∧ gDts X.bas ts r vs σ H Q := fun {vs ds} rl h => by
      cases er : r ds δ with
      | none => rw [er] at h; exact h.elim
      | some δ1 => exact ⟨by rw [rl.length, hl ds δ δ1 er], P, δ, ds, S, rl, h⟩
    cases rr with
    | tup e rl => obtain ⟨l1, l2⟩ := fin rl h; exact .inl ⟨_, _, rfl, sqT_sub S.ph e, l1, l2⟩
    | lst e rl => obtain ⟨l1, l2⟩ := fin rl h; exact .inr ⟨_, _, rfl, .inl (.inl (S.ph _ _ e)), l1, l2⟩
    | non => exact h.elim
    | bl b => exact h.elim
    | int b => exact h.elim
    | str b => exact h.elim
    | dK _ _ => exact h.elim
    | dT _ _ _ => exact h.elim
/-- target = e -/
def tgS (g : TgM) (f : M R) : SM := fun δ => ofRes (persM f δ) fun d δ' => match g d δ' with
  | some δ2 => .nx δ2
  | none => .bad
theorem ds_tg {ts : List Nat} {tg : Expr} {g : TgM} (he : PE X e (eD X.bas X.mg W f)) (hg : PG X tg (gDt X.bas ts g)) (hs : swapsWithSole [tg] e pos.line X.env = pure false) (hw : swappedStores [tg] e X.env = pure none) (h1 : (assignEach [tg] X.env).map (·.2) = [assign tg X.env]) : PS X (.Assign [tg] e pos) (sD X.bas X.mg W (tgS g f)) :=
  PS.mono (ps_asg (de_pers he) hg hs hw h1) fun D σ H h => ofRes_gD h fun d δ1 v H1 P1 δ P S S1 s1 r1 q => ⟨P1, δ1, d, S1, r1, by
    cases eg : g d δ1 with
    | none => rw [eg] at q; exact q
    | some δ2 => rw [eg] at q; exact fun σ2 H2 P2 S2 s2 _ => q σ2 H2 P2 S2 (s1.trans s2)⟩
theorem mvR_noslot {r r' : R} {δ δ' : DEnv} (h : mvR r δ = .ok r' δ') : ∀ i, r' ≠ .slot i := by
  cases r with
  | val d => cases h; exact fun i z => nomatch z
  | new d => cases h; exact fun i z => nomatch z
  | slot j =>
    change (match δ[j]? with | some (some (.own, d)) => Res.ok (R.val d) (δ.set j (some (.pers, d))) | _ => .bad) = _ at h
    cases e : δ[j]? with
    | none => rw [e] at h; cases h
    | some o =>
      rw [e] at h
      cases o with
      | none => cases h
      | some p =>
        obtain ⟨k, d⟩ := p
        cases k with
        | own => cases h; exact fun i z => nomatch z
        | pers => cases h
        | bor => cases h
        | lck => cases h
theorem mvM_noslot {δ δ' : DEnv} {r : R} (h : mvM f δ = .ok r δ') : ∀ i, r ≠ .slot i := by
  unfold mvM bindM at h
  cases e : f δ with
  | ok q δ1 => rw [e] at h; exact mvR_noslot h
  | ex x δ1 => rw [e] at h; cases h
  | bad => rw [e] at h; cases h
/-- a, b = e1, e2, two names of the def's own -/
def parS (i j : Nat) (f g : M R) : SM := fun δ => ofRes (mvM f δ) fun r δ1 => ofRes (mvM g δ1) fun q δ2 => nxO ((putO i r δ2).bind (putO j q))
theorem ofRes_ok {K : Bas} {mg : Str → Option Value} {α β : Type} {rel : Rl β α} {r : Res α} {k : α → DEnv → SRes} {σ σ0 : Sg} {δ δ0 : DEnv} {P H P0 H0 : Hp} {Dn : Ends} {Q : β → Hp → Prop} (s0 : Stp σ0 δ0 P0 H0 σ δ P H) (h : sK K mg W (ofRes r k) σ0 δ0 P0 H0 Dn)
    (q : ∀ a δ1 v H1 P1, r = .ok a δ1 → SR K P1 H1 σ δ1 → Stp σ δ P H σ δ1 P1 H1 → rel H P1 H1 σ δ1 v a → sK K mg W (k a δ1) σ0 δ0 P0 H0 Dn → Q v H1) : gK K mg W rel r σ δ P H Q := by
  cases r with
  | ok a δ1 => exact fun v H1 P1 S1 s1 r1 => q a δ1 v H1 P1 rfl S1 s1 r1 h
  | ex x δ1 => exact fun c d H1 P1 S1 s1 r1 => h c d σ H1 P1 S1 (s0.trans s1) r1
  | bad => exact h
theorem ds_par {i j : Nat} {x y : Str} {px py pt : Pos} {kt k2 : Nat} {pt2 : Pos} (hc : X.calm = true) (hN : X.N.Nodup) (hi : X.N[i]? = some x) (hj : X.N[j]? = some y) (hij : i ≠ j)
    (hx : X.env.scope.names.lookup x = some .local) (hy : X.env.scope.names.lookup y = some .local) (ha : PE X a (eD X.bas X.mg W fa)) (hb : PE X b (eD X.bas X.mg W fb)) (h1 : starEach [a, b] X.env = (false, eval a X.env) :: starEach [b] X.env) (h2 : starEach [b] X.env = (false, eval b X.env) :: starEach [] X.env)
    (hw : swappedStores [.Tuple [.Name x px, .Name y py] kt pt] (.Tuple [a, b] k2 pt2) X.env = pure (some [x, y]))
    (hs : swapsWithSole [.Tuple [.Name x px, .Name y py] kt pt] (.Tuple [a, b] k2 pt2) pos.line X.env = pure false) :
    PS X (.Assign [.Tuple [.Name x px, .Name y py] kt pt] (.Tuple [a, b] k2 pt2) pos) (sD X.bas X.mg W (parS i j fa fb)) :=
  PS.mono (ps_par hc hN hi hj hij hx hy (pa_cons (de_mv ha) (pa_cons (de_mv hb) pa_nil h2) h1) hw hs) fun D σ H ⟨P, δ, S, h⟩ => by
    refine ⟨P, δ, S, ofRes_ok (Stp.refl _ _ _ _) h fun r δ1 v H1 P1 er S1 s1 r1 h => ⟨P1, δ1, S1, ofRes_ok s1 h fun q δ2 w H2 P2 eq S2 s2 r2 h => ?_⟩⟩
    refine ⟨v, w, rfl, ?_⟩
    have r1' := r1.step s2 (mvM_noslot er)
    cases e3 : putO i r δ2 with
    | none => rw [e3] at h; exact h.elim
    | some δ3 =>
      rw [e3] at h
      obtain ⟨S3, s3, hk⟩ := putO_ok S2 (s1.trans s2) (fun _ z => z) r1' e3
      -- the second result behind the first store
      have r2' : RRep X.bas H1 P2 H2 (σ.set i (some v)) δ3 w q := by
        cases q with
        | slot k => exact absurd rfl (mvM_noslot eq k)
        | val d => exact r2
        | new d =>
          obtain ⟨c, rfl, n0, np, no, nb, o⟩ := r2
          have hv : (∃ d, r = .new d) → v ≠ .ref c := fun ⟨d1, z⟩ e => by
            subst z
            obtain ⟨c1, e1, _, _, _, _, o1⟩ := r1
            rw [e] at e1; cases e1
            obtain ⟨u, eu⟩ := o1.there
            rw [n0] at eu; cases eu
          have key : ∀ kd, (kd = .own ∨ kd = .bor) → ¬ Adr σ δ2 kd c → ¬ Adr (σ.set i (some v)) δ3 kd c := fun kd hkd n ⟨m, e, z, y⟩ => by
            rcases hk with ⟨d1, hr, hk⟩ | ⟨d1, hr, hk⟩
            · rw [hk] at z
              rcases at_set z with ⟨_, z2, _, _⟩ | ⟨ne, z⟩
              · subst z2; rcases hkd with h | h <;> cases h
              · rw [List.getElem?_set_ne (fun z => ne z.symm)] at y
                exact n ⟨m, e, z, y⟩
            · rw [hk] at z
              rcases at_set z with ⟨z1, z2, _, hl⟩ | ⟨ne, z⟩
              · subst z1
                rw [List.getElem?_set_self (by rw [S2.len]; exact hl)] at y
                exact hv ⟨d1, hr⟩ (Option.some.inj (Option.some.inj y))
              · rw [List.getElem?_set_ne (fun z => ne z.symm)] at y
                exact n ⟨m, e, z, y⟩
          exact ⟨c, rfl, n0, np, key .own (.inl rfl) no, key .bor (.inr rfl) nb, o⟩
      change sK X.bas X.mg W (nxO (putO j q δ3)) σ δ P H D at h
      cases e4 : putO j q δ3 with
      | none => rw [e4] at h; exact h.elim
      | some δ4 =>
        rw [e4] at h
        obtain ⟨S4, s4, _⟩ := putO_ok S3 s3 (fun b z => live_back s1 z) r2' e4
        exact h _ H2 P2 S4 s4
end
end DL

/-! # DL, part 9: what changes one's own lists and dicts; while, for. -/
namespace DL
open PySem PySem.Spec PyProof.Rows L2

section
variable {K : Bas} {P H : Hp} {σ : Sg} {δ : DEnv}
/-- the thing in slot i is changed -/
theorem SR.mut (S : SR K P H σ δ) {i : Nat} {k : Kd} {c c' : D} {a : Addr} {o : HO} (h : At δ i k c) (hk : k = .own ∨ k = .bor) (e : σ[i]? = some (some (.ref a))) (n : OwnR K P (upd H a o) a c') : SR K P (upd H a o) σ (δ.set i (some (k, c'))) ∧ Stp σ δ P H σ (δ.set i (some (k, c'))) P (upd H a o) := by
  have kp : k ≠ .pers := by rcases hk with rfl | rfl <;> decide
  obtain ⟨⟨u, eu⟩, pa⟩ := S.adr kp ⟨i, c, h, e⟩
  have hi : i < δ.length := (List.getElem?_eq_some_iff.mp (show δ[i]? = some _ from h)).1
  have ph : Sub P (upd H a o) := fun b v q => by
    have hb : b ≠ a := fun z => by subst z; rw [pa] at q; cases q
    rw [upd_ne hb]; exact S.ph b v q
  have other : ∀ j l d, At δ j l d → l ≠ .pers → j ≠ i → ∀ b, σ[j]? = some (some (.ref b)) → b ≠ a := fun j l d hj hl ne b eb z => by
    subst z
    exact ne (S.inj j i l k d c b hj h hl kp eb e)
  refine ⟨⟨by rw [List.length_set]; exact S.len, ph, fun j l d hj => ?_, fun j1 j2 l1 l2 d1 d2 b h1 h2 n1 n2 q1 q2 => ?_⟩, ⟨fun b v q n1 n2 => ?_, fun b v q n1 n2 => rfl, fun b v q => ?_, Sub.refl _, fun b ⟨j, d, hj, q⟩ => ?_, fun j d hj => ?_, fun j d hj => ?_⟩⟩
  · rcases at_set hj with ⟨rfl, rfl, rfl, _⟩ | ⟨ne, hj⟩
    · refine ⟨_, e, ?_⟩
      rcases hk with rfl | rfl
      · exact ⟨a, rfl, pa, n⟩
      · exact ⟨a, rfl, pa, n⟩
    · obtain ⟨v, ev, sl⟩ := S.sl j l d hj
      refine ⟨v, ev, ?_⟩
      cases l with
      | pers => exact sl
      | own => obtain ⟨b, rfl, nb, ob⟩ := sl; have hb := other j _ d hj (by decide) ne b ev; exact ⟨b, rfl, nb, ob.step (Sub.refl _) fun q e => by rw [upd_ne hb]; exact e⟩
      | bor => obtain ⟨b, rfl, nb, ob⟩ := sl; have hb := other j _ d hj (by decide) ne b ev; exact ⟨b, rfl, nb, ob.step (Sub.refl _) fun q e => by rw [upd_ne hb]; exact e⟩
      | lck => obtain ⟨b, rfl, nb, ob⟩ := sl; have hb := other j _ d hj (by decide) ne b ev; exact ⟨b, rfl, nb, ob.step (Sub.refl _) fun q e => by rw [upd_ne hb]; exact e⟩
  · have back : ∀ j l d, At (δ.set i (some (k, c'))) j l d → ∃ d', At δ j l d' := fun j l d z => by
      rcases at_set z with ⟨rfl, rfl, _, _⟩ | ⟨_, z⟩
      · exact ⟨c, h⟩
      · exact ⟨d, z⟩
    obtain ⟨e1, g1⟩ := back j1 l1 d1 h1
    obtain ⟨e2, g2⟩ := back j2 l2 d2 h2
    exact S.inj j1 j2 l1 l2 e1 e2 b g1 g2 n1 n2 q1 q2
  · have hb : b ≠ a := fun z => by
      subst z
      rcases hk with rfl | rfl
      · exact n1 ⟨i, c, h, e⟩
      · exact n2 ⟨i, c, h, e⟩
    rw [upd_ne hb]; exact q
  · by_cases hb : b = a
    · subst hb; exact ⟨o, upd_same⟩
    · exact ⟨v, by rw [upd_ne hb]; exact q⟩
  · rcases at_set hj with ⟨rfl, hk', _, _⟩ | ⟨_, hj⟩
    · subst hk'; exact .inl ⟨j, c, h, q⟩
    · exact .inl ⟨j, d, hj, q⟩
  · by_cases ne : j = i
    · subst ne
      have : k = .bor := by
        have h1 : δ[j]? = some (some (.bor, d)) := hj
        rw [show δ[j]? = some (some (k, c)) from h] at h1; cases h1; rfl
      subst this
      exact ⟨⟨c', at_set_self (show δ[j]? = some (some (.bor, c)) from h)⟩, rfl⟩
    · exact ⟨⟨d, at_set_ne ne hj⟩, rfl⟩
  · rcases at_set hj with ⟨rfl, hk', _, _⟩ | ⟨_, hj⟩
    · subst hk'; exact ⟨c, h⟩
    · exact ⟨d, hj⟩
end

/-! ### c[k] = d -/
def keyPut (m : List (D × D)) (k : D) : Bool := keyFor m k || (m.isEmpty && (match keyOf k with | some (.inr _) => true | _ => false))
def setD (c k d : D) : Option D := match c with
  | .list xs => match k with
    | .int i => (ixN xs.length i).map fun j => .list (xs.set j d)
    | _ => none
  | .dict m => if keyPut m k = true ∧ m.length < line then some (.dict (dput m k d)) else none
  | _ => none
/-- a store into one's own thing at a, by values -/
def rSetD (K : Bas) (set : D → D → D → Option D) : TSet := fun o i v H Q => ∃ P c k d a, Sub P H ∧ o = .ref a ∧ P a = none ∧ OwnR K P H a c ∧ DR K P H i k ∧ Rep K P v d ∧ match set c k d with
  | some c' => ∀ ho, OwnR K P (upd H a ho) a c' → Q (upd H a ho)
  | none => False
section
variable {X : Cx}
theorem repK_upd {K : Bas} {P : Hp} {kvs : List (Key × V)} {m : List (D × D)} (r : RepK K P kvs m) : RepK K P kvs m := r
theorem set_DD (hu : X.A.units + 64 < cLine) : PSet X (rSetD X.bas setD) := by
  intro pins s σ H o i v ov iv u Q I ro ri rv ⟨P, c, k, d, a, sb, eo, pa, oc, hi, hv, h⟩
  subst eo
  obtain rfl : ov = Value.ref a := ro
  cases oc with
  | lst e r =>
    rename_i vs ds
    cases k with
    | int j =>
      change match (ixN ds.length j).map fun j => PyData.list (ds.set j d) with | some c' => _ | none => False at h
      cases ej : ixN ds.length j with
      | none => rw [ej] at h; exact h.elim
      | some n =>
        rw [ej] at h
        have := hi.int
        subst this
        exact set_list pins s σ H (.ref a) (.int j) v (.ref a) iv u Q I rfl ri rv ⟨a, vs, j, n, rfl, rfl, e, by rw [r.length]; exact ej, h _ (.lst upd_same (r.set hv n))⟩
    | none => exact h.elim
    | bool i => exact h.elim
    | str i => exact h.elim
    | list i => exact h.elim
    | tuple i => exact h.elim
    | dict i => exact h.elim
  | dK e r =>
    rename_i kvs m
    change match (if keyPut m k = true ∧ m.length < line then some (PyData.dict (dput m k d)) else none) with | some c' => _ | none => False at h
    by_cases hc : keyPut m k = true ∧ m.length < line
    · rw [if_pos hc] at h
      obtain ⟨hk, hl⟩ := hc
      rw [← r.length, line_eq] at hl
      by_cases kf : keyFor m k = true
      · rcases keyFor_cases (x := .ref a) sb (.inr ⟨a, rfl, .inl (.dK e r)⟩) hi kf with ⟨a', j, kvs', ea, rfl, rfl, r1, rk⟩ | ⟨a', b, ks, xs, ea, rfl, rfl, pb, r1, rt⟩
        · exact thn (d_setItem (y := kV j) (by omega) I (.inl ⟨kvs, j, e, rfl, hl, rfl⟩) ri rv fun s' I' => (⟨_, I', h _ (.dK upd_same (repK_put r hv))⟩ : ∃ H', Inv X pins σ H' s' ∧ Q H')) fun _ _ q => q
        · cases ea
          rcases r1 with r1 | ⟨o1, r1⟩
          · rw [e] at r1; cases r1
          · rw [e] at r1; cases r1
      · unfold keyPut at hk
        rw [Bool.not_eq_true _ |>.mp kf, Bool.false_or, Bool.and_eq_true] at hk
        obtain ⟨h1, h2⟩ := hk
        have hm : m = [] := by cases m with | nil => rfl | cons _ _ => cases h1
        subst hm
        cases r
        cases ek : keyOf k with
        | none => rw [ek] at h2; cases h2
        | some z =>
          rw [ek] at h2
          rcases of_keyOf ek with ⟨j, rfl, rfl⟩ | ⟨ks, rfl, rfl⟩
          · cases h2
          · obtain ⟨b, ws, rfl, pb, hb, rb⟩ := hi.tuple sb
            have := repL_keys rb
            subst this
            obtain rfl : iv = Value.ref b := ri
            have I1 := Inv.toT I e
            have nb : ∀ {c : Addr} {xs : List V}, SqT X.K H c xs → SqT X.K (upd H a (TD X.bas a [])) c xs := fun {c xs} q => by
              rcases q with (q | ⟨o1, q⟩) | q
              · exact .inl (.inl (by rw [upd_ne (fun z => by subst z; rw [e] at q; cases q)]; exact q))
              · exact .inl (.inr ⟨o1, by rw [upd_ne (fun z => by subst z; rw [e] at q; cases q)]; exact q⟩)
              · exact .inr q
            refine td_setItem (P := P) (xs := []) (m := []) (k := ks) (by omega) I1 (fun c q ec => ?_) upd_same .nil (nb hb) (by rw [← line_eq]; decide) rv fun s' I' => ?_
            · rw [upd_ne (fun z => by subst z; rw [pa] at ec; cases ec)]; exact sb c q ec
            · rw [upd_upd] at I'
              exact ⟨_, I', h _ (.dT upd_same putX_ne (repT_put .nil pb hv))⟩
    · rw [if_neg hc] at h; exact h.elim
  | dT e ne r =>
    rename_i xs m
    change match (if keyPut m k = true ∧ m.length < line then some (PyData.dict (dput m k d)) else none) with | some c' => _ | none => False at h
    by_cases hc : keyPut m k = true ∧ m.length < line
    · rw [if_pos hc] at h
      obtain ⟨hk, hl⟩ := hc
      rw [← r.length, line_eq] at hl
      by_cases kf : keyFor m k = true
      · rcases keyFor_cases (x := .ref a) sb (.inr ⟨a, rfl, .inl (.dT e ne r)⟩) hi kf with ⟨a', j, kvs', ea, rfl, rfl, r1, rk⟩ | ⟨a', b, ks, xs', ea, rfl, rfl, pb, r1, rt⟩
        · cases ea
          rcases r1 with r1 | ⟨o1, r1⟩
          · rw [e] at r1; cases r1
          · rw [e] at r1; cases r1
        · obtain rfl : iv = Value.ref b := ri
          exact td_setItem (k := ks) (by omega) I sb e r (sqT_sub sb pb) hl rv fun s' I' => ⟨_, I', h _ (.dT upd_same putX_ne (repT_put r pb hv))⟩
      · obtain ⟨ks, d', r', rfl⟩ := repT_headT r ne
        unfold keyPut at hk
        rw [Bool.not_eq_true _ |>.mp kf] at hk
        cases hk
    · rw [if_neg hc] at h; exact h.elim
variable {W : WX} {e o a b c : Expr} {es : List Expr} {f fa fb fc : M R} {pos : Pos}
/-- x[k] = e, x one's own in slot i: first e, then k -/
def mutO (δ : DEnv) (i : Nat) (g : D → Option D) : Option DEnv := match δ[i]? with
  | some (some (.own, c)) => (g c).map fun c' => δ.set i (some (.own, c'))
  | some (some (.bor, c)) => (g c).map fun c' => δ.set i (some (.bor, c'))
  | _ => none
def has (δ : DEnv) (i : Nat) : Bool := match δ[i]? with
  | some (some _) => true
  | _ => false
theorem has_at {K : Bas} {P H : Hp} {σ : Sg} {δ : DEnv} {i : Nat} (S : SR K P H σ δ) (h : has δ i = true) : ∃ v, σ[i]? = some (some v) := by
  unfold has at h
  cases e : δ[i]? with
  | none => rw [e] at h; cases h
  | some o =>
    rw [e] at h
    cases o with
    | none => cases h
    | some p => obtain ⟨k, d⟩ := p; obtain ⟨v, ev, _⟩ := S.sl i k d e; exact ⟨v, ev⟩
def okO {α : Type} (r : Res α) (k : α → DEnv → Option DEnv) : Option DEnv := match r with
  | .ok a δ => k a δ
  | _ => none
def stS (i : Nat) (fk fv : M R) : SM := fun δ => ofRes (persM fv δ) fun d δ1 => nxO (if has δ1 i = true then okO (bindM fk datM δ1) fun k δ2 => mutO δ2 i fun c => setD c k d else none)
theorem mutO_ok {K : Bas} {P H : Hp} {σ : Sg} {δ δ' : DEnv} {i : Nat} {g : D → Option D} (S : SR K P H σ δ) (h : mutO δ i g = some δ') : ∃ k c c' a, At δ i k c ∧ (k = .own ∨ k = .bor) ∧ g c = some c' ∧ δ' = δ.set i (some (k, c')) ∧ σ[i]? = some (some (.ref a)) ∧ P a = none ∧ OwnR K P H a c := by
  unfold mutO at h
  cases e : δ[i]? with
  | none => rw [e] at h; cases h
  | some o =>
    rw [e] at h
    cases o with
    | none => cases h
    | some p =>
      obtain ⟨k, c⟩ := p
      cases k with
      | pers => cases h
      | lck => cases h
      | own =>
        change (g c).map _ = some δ' at h
        cases eg : g c with
        | none => rw [eg] at h; cases h
        | some c' =>
          rw [eg] at h; cases h
          obtain ⟨v, ev, a, rfl, pa, oc⟩ := S.sl i .own c e
          exact ⟨.own, c, c', a, e, .inl rfl, eg, rfl, ev, pa, oc⟩
      | bor =>
        change (g c).map _ = some δ' at h
        cases eg : g c with
        | none => rw [eg] at h; cases h
        | some c' =>
          rw [eg] at h; cases h
          obtain ⟨v, ev, a, rfl, pa, oc⟩ := S.sl i .bor c e
          exact ⟨.bor, c, c', a, e, .inr rfl, eg, rfl, ev, pa, oc⟩
theorem bind_dat {δ δ' : DEnv} {f : M R} {d : D} (h : bindM f datM δ = .ok d δ') : ∃ r, f δ = .ok r δ' ∧ dat δ' r = some d := by
  unfold bindM at h
  cases e : f δ with
  | bad => rw [e] at h; cases h
  | ex x δ1 => rw [e] at h; cases h
  | ok r δ1 =>
    rw [e] at h
    change (match dat δ1 r with | some d => Res.ok d δ1 | none => .bad) = _ at h
    cases e2 : dat δ1 r with
    | none => rw [e2] at h; cases h
    | some d' => rw [e2] at h; cases h; exact ⟨r, rfl, e2⟩
def rO (K : Bas) : Rl V D := fun _ P H _ _ v d => DR K P H v d
theorem rO_up {K : Bas} : (rO K).Up := fun _ _ _ _ _ _ _ _ _ h => h
/-- an operand's data -/
theorem de_dat (he : PE X e (eD X.bas X.mg W f)) : PE X e (gD X.bas X.mg W (rO X.bas) (bindM f datM)) :=
  PE.mono he fun σ H Q h => gD.bind rO_up h fun r δ1 v H1 P1 δ P e1 S S1 s1 r1 q => by
    have q' : gK X.bas X.mg W (rO X.bas) (bindM (datM r) pureM δ1) σ δ1 P1 H1 Q := by
      have e : bindM (datM r) pureM δ1 = datM r δ1 := by
        unfold bindM; cases datM r δ1 <;> rfl
      rw [e]; exact q
    obtain ⟨d, ed, q⟩ := gK.dat q'
    exact gK.pure q S1 (RRep.dr r1 (Stp.refl _ _ _ _) S1 ed)
theorem ds_store {i : Nat} {x : Str} {p pos' : Pos} (hu : X.A.units + 64 < cLine) (hN : X.N[i]? = some x) (hv : Vis X.env.scope x) (hd : (x == ("__debug__" : Str)) = false) (hcd : (x == ("__classdict__" : Str)) = false)
    (hk : PE X a (eD X.bas X.mg W fa)) (he : PE X e (eD X.bas X.mg W f)) (hs : swapsWithSole [.Subscript (.Name x p) a pos'] e pos.line X.env = pure false) (hw : swappedStores [.Subscript (.Name x p) a pos'] e X.env = pure none)
    (ha : ∀ v, assign (.Subscript (.Name x p) a pos') X.env v = (do
      let ov ← holding [v] (eval (.Name x p) X.env)
      let iv ← holding [v, ov] (eval a X.env)
      standAt pos'
      holding [v, ov, iv] (setItem ov iv v)
      release [v, ov, iv] [])) : PS X (.Assign [.Subscript (.Name x p) a pos'] e pos) (sD X.bas X.mg W (stS i fa f)) :=
  PS.mono (ps_asg (de_pers he) (pg_sub (pe_var hN hv hd hcd) (de_dat hk) (set_DD hu) ha) hs hw rfl) fun D σ H ⟨P, δ, S, h⟩ => by
    refine ⟨P, δ, S, ofRes_ok (Stp.refl _ _ _ _) h fun d δ1 v H1 P1 er S1 s1 r1 h => ?_⟩
    by_cases hh : has δ1 i = true
    · rw [if_pos hh] at h
      obtain ⟨u, eu⟩ := has_at S1 hh
      refine ⟨u, eu, P1, δ1, S1, ?_⟩
      cases e2 : bindM fa datM δ1 with
      | bad => rw [e2] at h; exact h.elim
      | ex z δ2 => rw [e2] at h; exact h.elim
      | ok k δ2 =>
        rw [e2] at h
        change sK X.bas X.mg W (nxO (mutO δ2 i fun c => setD c k d)) σ δ P H D at h
        intro w H2 P2 S2 s2 hw
        cases e3 : mutO δ2 i fun c => setD c k d with
        | none => rw [e3] at h; exact h.elim
        | some δ3 =>
          rw [e3] at h
          obtain ⟨kd, c, c', b, hA, hkd, eg, rfl, eb, pb, oc⟩ := mutO_ok S2 e3
          rw [eu] at eb; cases eb
          refine ⟨P2, c, k, d, b, S2.ph, rfl, pb, oc, hw, s2.rep r1, ?_⟩
          rw [eg]
          intro ho no
          obtain ⟨S3, s3⟩ := S2.mut hA hkd eu no
          exact h σ _ P2 S3 ((s1.trans s2).trans s3)
    · rw [if_neg hh] at h; exact h.elim
/-! ### methods of one's own list or dict -/
def isT (T : String) : D → Bool
  | .list _ => T == "list"
  | .dict _ => T == "dict"
  | _ => false
/-- one's own list or dict -/
def ownT (T : String) (δ : DEnv) (i : Nat) : Bool := match δ[i]? with
  | some (some (.own, c)) => isT T c
  | some (some (.bor, c)) => isT T c
  | _ => false
/-- g: from what is there to what is there then, and the value -/
def mutV (δ : DEnv) (i : Nat) (g : D → Option (D × D)) : Res R := match δ[i]? with
  | some (some (.own, c)) => match g c with
    | some (c', r) => .ok (.val r) (δ.set i (some (.own, c')))
    | none => .bad
  | some (some (.bor, c)) => match g c with
    | some (c', r) => .ok (.val r) (δ.set i (some (.bor, c')))
    | none => .bad
  | _ => .bad
def m1M (T : String) (i : Nat) (g : D → D → Option (D × D)) (f : M R) : M R := fun δ => if ownT T δ i = true then bindM (persM f) (fun d δ1 => mutV δ1 i fun c => g c d) δ else .bad
def m0M (T : String) (i : Nat) (g : D → Option (D × D)) : M R := fun δ => if ownT T δ i = true then mutV δ i g else .bad
def mG1 (K : Bas) (g : D → D → Option (D × D)) : V → List V → Hp → VK → Prop := fun x xs H Q => ∃ P c d v a, xs = [v] ∧ x = .ref a ∧ Sub P H ∧ P a = none ∧ OwnR K P H a c ∧ Rep K P v d ∧ match g c d with
  | some (c', r) => ∀ ho w, OwnR K P (upd H a ho) a c' → Rep K P w r → Q w (upd H a ho)
  | none => False
theorem own_type {pins : List (Addr × Obj)} {s : Shared} {σ : Sg} {H P : Hp} {a : Addr} {c : D} {T : String} {v : Value} (I : Inv X pins σ H s) (o : OwnR X.bas P H a c) (ht : isT T c = true) (r : RelV (.ref a) v) : s.TypeIs v T ∧ ∀ b, v = .ref b → ∃ ob, s.heap.get? b = some ob ∧ ob.dict = none := by
  obtain rfl : v = Value.ref a := r
  cases o with
  | lst e _ =>
    have : T = "list" := by simpa [isT] using ht
    subst this
    exact tyV_is I (show RelV (.ref a) (.ref a) from rfl) (.inl ⟨rfl, _, .inl (.inl e)⟩)
  | dK e _ =>
    have : T = "dict" := by simpa [isT] using ht
    subst this
    exact tyV_is I (show RelV (.ref a) (.ref a) from rfl) (.inr (.inr (.inl ⟨rfl, .inl ⟨_, e⟩⟩)))
  | dT e _ _ =>
    have : T = "dict" := by simpa [isT] using ht
    subst this
    obtain ⟨z, y, ys, rel, o, es, ep, h1, h2, _⟩ : TDφ X.bas a _ s.heap := (show ObjOk X.prog X.w H s.heap a (TD X.bas a _) from rd_of I.hok (.inl e)).1
    refine ⟨⟨o, h1, h2.1⟩, fun b q => ?_⟩
    cases q
    exact ⟨o, h1, h2.2.1⟩
theorem ownT_at {K : Bas} {P H : Hp} {σ : Sg} {δ : DEnv} {i : Nat} {T : String} (S : SR K P H σ δ) (h : ownT T δ i = true) : ∃ a c, σ[i]? = some (some (.ref a)) ∧ OwnR K P H a c ∧ isT T c = true := by
  unfold ownT at h
  cases e : δ[i]? with
  | none => rw [e] at h; cases h
  | some o =>
    rw [e] at h
    cases o with
    | none => cases h
    | some p =>
      obtain ⟨k, c⟩ := p
      cases k with
      | pers => cases h
      | lck => cases h
      | own => obtain ⟨v, ev, a, rfl, pa, oc⟩ := S.sl i .own c e; exact ⟨a, c, ev, oc, h⟩
      | bor => obtain ⟨v, ev, a, rfl, pa, oc⟩ := S.sl i .bor c e; exact ⟨a, c, ev, oc, h⟩
theorem mutV_ok {K : Bas} {mg : Str → Option Value} {P H P0 H0 : Hp} {σ : Sg} {δ δ0 : DEnv} {i : Nat} {g : D → Option (D × D)} {Q : VK} (S : SR K P H σ δ) (h : gK K mg W (rE K) (mutV δ i g) σ δ0 P0 H0 Q) (s0 : Stp σ δ0 P0 H0 σ δ P H) : ∃ c c' r a, g c = some (c', r) ∧ σ[i]? = some (some (.ref a)) ∧ P a = none ∧ OwnR K P H a c ∧
    ∀ ho w, OwnR K P (upd H a ho) a c' → Rep K P w r → Q w (upd H a ho) := by
  unfold mutV at h
  cases e : δ[i]? with
  | none => rw [e] at h; exact h.elim
  | some o =>
    rw [e] at h
    cases o with
    | none => exact h.elim
    | some p =>
      obtain ⟨k, c⟩ := p
      have fin : (k = .own ∨ k = .bor) → gK K mg W (rE K) (match g c with | some (c', r) => .ok (.val r) (δ.set i (some (k, c'))) | none => .bad) σ δ0 P0 H0 Q → ∃ c c' r a, g c = some (c', r) ∧ σ[i]? = some (some (.ref a)) ∧ P a = none ∧ OwnR K P H a c ∧ ∀ ho w, OwnR K P (upd H a ho) a c' → Rep K P w r → Q w (upd H a ho) := fun hk h => by
        cases eg : g c with
        | none => rw [eg] at h; exact h.elim
        | some p =>
          obtain ⟨c', r⟩ := p
          rw [eg] at h
          obtain ⟨v, ev, sl⟩ := S.sl i k c e
          have : ∃ a, v = .ref a ∧ P a = none ∧ OwnR K P H a c := by
            rcases hk with rfl | rfl <;> exact sl
          obtain ⟨a, rfl, pa, oc⟩ := this
          refine ⟨c, c', r, a, eg, ev, pa, oc, fun ho w no rw' => ?_⟩
          obtain ⟨S1, s1⟩ := S.mut e hk ev no
          exact h w _ P S1 (s0.trans s1) rw'
      cases k with
      | pers => exact h.elim
      | lck => exact h.elim
      | own => exact fin (.inl rfl) h
      | bor => exact fin (.inr rfl) h
/-- a method of the built-in type T, its receiver of that type -/
theorem pe_bmG {T id : String} {name : Str} {r : V → List V → Hp → VK → Prop} {to : TE} {t : TA} {apos cpos : Pos} (pa : PlainAttrs T) (slot : Slot T name id) (hty : typeOf (.builtin id) = pure (.type "method_descriptor")) (hm : MtR X id r) (ho : PE X o to) (ha : PA X (e :: es) t)
    (hbase : attributeBase o name X.env (eval o X.env) = eval o X.env)
    (hfew : ((backTo cpos (starEach (e :: es) X.env)).all (fun x => !x.1) && (backToKw cpos (keywordEach [] X.env)).all (fun x => x.1.isSome)
      && decide ((e :: es).length + ([] : List Keyword).length + (if ([] : List Keyword).isEmpty then 0 else 1) < 30)) = true)
    (hline : (apos.endLine == cpos.line) = true) (hs : starEach (e :: es) X.env = (false, eval e X.env) :: starEach es X.env) (hplain : (backTo cpos (starEach es X.env)).any (·.1) = false) :
    PE X (.Call (.Attribute o name apos) (e :: es) [] cpos) (fun σ H Q => to σ H fun x H1 => (∀ pins s v, Inv X pins σ H1 s → RelV x v → s.TypeIs v T ∧ ∀ b, v = .ref b → ∃ ob, s.heap.get? b = some ob ∧ ob.dict = none) ∧ t σ H1 fun xs H2 => r x xs H2 Q) := by
  refine ⟨fun pins s σ H Q I h => ?_⟩
  refine wpAny_Call_method_late hbase hfew hline rfl (thn (ho.run pins s σ H _ I h) fun v s1 ⟨x, H1, I1, r1, ty, q1⟩ => ?_)
  obtain ⟨h1, h2⟩ := ty pins s1 v I1 r1
  refine ⟨T, id, pa, slot, hty, h1, h2, ?_⟩
  have hA := ha.run cpos pins s1 σ H1 _ I1 q1
  rw [hs] at hA ⊢
  refine Calls.callWith_builtin (by show (false || (backTo cpos (starEach es X.env)).any (·.1)) = false; rw [hplain] <;> rfl) (Calls.evalArgs_plain ?_)
  exact thn hA fun us s2 ⟨vs, H2, I2, r2, q2⟩ => hm pins s2 σ H2 x vs v us Q I2 r1 r2 q2
theorem pe_bmG0 {T id : String} {name : Str} {r : V → List V → Hp → VK → Prop} {to : TE} {apos cpos : Pos} (pa : PlainAttrs T) (slot : Slot T name id) (hty : typeOf (.builtin id) = pure (.type "method_descriptor")) (hm : MtR X id r) (ho : PE X o to)
    (hbase : attributeBase o name X.env (eval o X.env) = eval o X.env) (hline : (apos.endLine == cpos.line) = true) :
    PE X (.Call (.Attribute o name apos) [] [] cpos) (fun σ H Q => to σ H fun x H1 => (∀ pins s v, Inv X pins σ H1 s → RelV x v → s.TypeIs v T ∧ ∀ b, v = .ref b → ∃ ob, s.heap.get? b = some ob ∧ ob.dict = none) ∧ r x [] H1 Q) := by
  refine ⟨fun pins s σ H Q I h => ?_⟩
  refine wpAny_Call_method0_late hbase hline (thn (ho.run pins s σ H _ I h) fun v s1 ⟨x, H1, I1, r1, ty, q1⟩ => ?_)
  obtain ⟨h1, h2⟩ := ty pins s1 v I1 r1
  exact ⟨T, id, pa, slot, hty, h1, h2, Calls.callWith_builtin rfl (PySem.evalArgs_none (hm pins s1 σ H1 x [] v [] Q I1 r1 .nil q1))⟩
theorem de_m1 {T id : String} {name x : Str} {i : Nat} {g : D → D → Option (D × D)} {p apos cpos : Pos} (pa : PlainAttrs T) (slot : Slot T name id) (hty : typeOf (.builtin id) = pure (.type "method_descriptor")) (hm : MtR X id (mG1 X.bas g))
    (hN : X.N[i]? = some x) (hv : Vis X.env.scope x) (hd : (x == ("__debug__" : Str)) = false) (hcd : (x == ("__classdict__" : Str)) = false) (ha : PE X a (eD X.bas X.mg W fa))
    (hbase : attributeBase (.Name x p) name X.env (eval (.Name x p) X.env) = eval (.Name x p) X.env)
    (hfew : ((backTo cpos (starEach [a] X.env)).all (fun x => !x.1) && (backToKw cpos (keywordEach [] X.env)).all (fun x => x.1.isSome)
      && decide (([a] : List Expr).length + ([] : List Keyword).length + (if ([] : List Keyword).isEmpty then 0 else 1) < 30)) = true)
    (hline : (apos.endLine == cpos.line) = true) (hs : starEach [a] X.env = (false, eval a X.env) :: starEach [] X.env) (hplain : (backTo cpos (starEach [] X.env)).any (·.1) = false) :
    PE X (.Call (.Attribute (.Name x p) name apos) [a] [] cpos) (eD X.bas X.mg W (m1M T i g fa)) :=
  PE.mono (pe_bmG pa slot hty hm (pe_var hN hv hd hcd) (pa_cons (de_pers ha) pa_nil hs) hbase hfew hline hs hplain) fun σ H Q ⟨P, δ, S, h⟩ => by
    unfold m1M at h
    by_cases hc : ownT T δ i = true
    · rw [if_pos hc] at h
      obtain ⟨b, c, eb, oc, ht⟩ := ownT_at S hc
      refine ⟨_, eb, fun pins s v I r => own_type I oc ht r, P, δ, S, ?_⟩
      refine gK.bind rE_up h fun d δ1 v H1 P1 e1 S1 s1 r1 q => ?_
      obtain ⟨c1, c', r, a', eg, ea, pa', oc', fin⟩ := mutV_ok S1 q (Stp.refl _ _ _ _)
      rw [eb] at ea; cases ea
      refine ⟨P1, c1, d, v, b, rfl, rfl, S1.ph, pa', oc', r1, ?_⟩
      rw [eg]
      exact fin
    · rw [if_neg hc] at h; exact h.elim
def mG0 (K : Bas) (g : D → Option (D × D)) : V → List V → Hp → VK → Prop := fun x xs H Q => ∃ P c a, xs = [] ∧ x = .ref a ∧ Sub P H ∧ P a = none ∧ OwnR K P H a c ∧ match g c with
  | some (c', r) => ∀ ho w, OwnR K P (upd H a ho) a c' → Rep K P w r → Q w (upd H a ho)
  | none => False
theorem de_m0 {T id : String} {name x : Str} {i : Nat} {g : D → Option (D × D)} {p apos cpos : Pos} (pa : PlainAttrs T) (slot : Slot T name id) (hty : typeOf (.builtin id) = pure (.type "method_descriptor")) (hm : MtR X id (mG0 X.bas g))
    (hN : X.N[i]? = some x) (hv : Vis X.env.scope x) (hd : (x == ("__debug__" : Str)) = false) (hcd : (x == ("__classdict__" : Str)) = false)
    (hbase : attributeBase (.Name x p) name X.env (eval (.Name x p) X.env) = eval (.Name x p) X.env) (hline : (apos.endLine == cpos.line) = true) :
    PE X (.Call (.Attribute (.Name x p) name apos) [] [] cpos) (eD X.bas X.mg W (m0M T i g)) :=
  PE.mono (pe_bmG0 pa slot hty hm (pe_var hN hv hd hcd) hbase hline) fun σ H Q ⟨P, δ, S, h⟩ => by
    unfold m0M at h
    by_cases hc : ownT T δ i = true
    · rw [if_pos hc] at h
      obtain ⟨b, c, eb, oc, ht⟩ := ownT_at S hc
      refine ⟨_, eb, fun pins s v I r => own_type I oc ht r, ?_⟩
      obtain ⟨c1, c', r, a', eg, ea, pa', oc', fin⟩ := mutV_ok S h (Stp.refl _ _ _ _)
      rw [eb] at ea; cases ea
      refine ⟨P, c1, b, rfl, rfl, S.ph, pa', oc', ?_⟩
      rw [eg]
      exact fin
    · rw [if_neg hc] at h; exact h.elim
/-- append, extend, pop -/
def appD (c d : D) : Option (D × D) := match c with
  | .list xs => if xs.length < line then some (.list (xs ++ [d]), .none) else none
  | _ => none
def extD (c d : D) : Option (D × D) := match c with
  | .list xs => match d with
    | .list ys => if xs.length + ys.length ≤ line then some (.list (xs ++ ys), .none) else none
    | _ => none
  | _ => none
def popD (c : D) : Option (D × D) := match c with
  | .list xs => match xs[xs.length - 1]? with
    | some d => some (.list xs.dropLast, d)
    | none => none
  | _ => none
theorem OwnR.list' {K : Bas} {P H : Hp} {a : Addr} {ds : List D} (h : OwnR K P H a (.list ds)) : ∃ vs, H a = some (.lst vs) ∧ RepL K P vs ds := by
  cases h with
  | lst e r => exact ⟨_, e, r⟩
theorem mt_appD : MtR X "list.append" (mG1 X.bas appD) := fun pins s σ H x xs v us Q I r rs ⟨P, c, d, w, a, e1, e2, sb, pa, oc, rd, h⟩ => by
  refine mt_append pins s σ H x xs v us Q I r rs ?_
  cases c with
  | list ds =>
    obtain ⟨vs, e, rl⟩ := oc.list'
    change match (if ds.length < line then some (PyData.list (ds ++ [d]), PyData.none) else none) with | some (c', r) => _ | none => False at h
    by_cases hl : ds.length < line
    · rw [if_pos hl] at h
      exact ⟨a, vs, w, e2, e1, e, by rw [rl.length, ← line_eq]; exact hl, h _ .non (.lst upd_same (rl.append (.cons rd .nil))) .non⟩
    · rw [if_neg hl] at h; exact h.elim
  | none => exact h.elim
  | bool i => exact h.elim
  | str i => exact h.elim
  | int i => exact h.elim
  | tuple i => exact h.elim
  | dict i => exact h.elim
theorem mt_extD : MtR X "list.extend" (mG1 X.bas extD) := fun pins s σ H x xs v us Q I r rs ⟨P, c, d, w, a, e1, e2, sb, pa, oc, rd, h⟩ => by
  refine mt_extend pins s σ H x xs v us Q I r rs ?_
  cases c with
  | list ds =>
    cases d with
    | list es =>
      obtain ⟨vs, e, rl⟩ := oc.list'
      cases rd with
      | lst pb rb =>
        change match (if ds.length + es.length ≤ line then some (PyData.list (ds ++ es), PyData.none) else none) with | some (c', r) => _ | none => False at h
        by_cases hl : ds.length + es.length ≤ line
        · rw [if_pos hl] at h
          exact ⟨a, _, vs, _, e2, e1, e, sb _ _ pb, by rw [rl.length, rb.length, ← line_eq]; exact hl, h _ .non (.lst upd_same (rl.append rb)) .non⟩
        · rw [if_neg hl] at h; exact h.elim
    | none => exact h.elim
    | bool i => exact h.elim
    | str i => exact h.elim
    | int i => exact h.elim
    | tuple i => exact h.elim
    | dict i => exact h.elim
  | none => exact h.elim
  | bool i => exact h.elim
  | str i => exact h.elim
  | int i => exact h.elim
  | tuple i => exact h.elim
  | dict i => exact h.elim
theorem repL_dropLast {K : Bas} {P : Hp} {vs : List V} {ds : List D} (r : RepL K P vs ds) : RepL K P vs.dropLast ds.dropLast := by
  rw [List.dropLast_eq_take, List.dropLast_eq_take, r.length]
  exact r.take _
theorem mt_popD : MtR X "list.pop" (mG0 X.bas popD) := fun pins s σ H x xs v us Q I r rs ⟨P, c, a, e1, e2, sb, pa, oc, h⟩ => by
  refine mt_pop pins s σ H x xs v us Q I r rs ?_
  cases c with
  | list ds =>
    obtain ⟨vs, e, rl⟩ := oc.list'
    change match (match ds[ds.length - 1]? with | some d => some (PyData.list ds.dropLast, d) | none => none) with | some (c', r) => _ | none => False at h
    cases ed : ds[ds.length - 1]? with
    | none => rw [ed] at h; exact h.elim
    | some d =>
      rw [ed] at h
      obtain ⟨y, ey, ry⟩ := rl.get' ed
      exact ⟨a, vs, y, e2, e1, e, by rw [rl.length]; exact ey, h _ y (.lst upd_same (repL_dropLast rl)) ry⟩
  | none => exact h.elim
  | bool i => exact h.elim
  | str i => exact h.elim
  | int i => exact h.elim
  | tuple i => exact h.elim
  | dict i => exact h.elim
/-! ### while -/
def whileN : Nat → M Bool → SM → SM
  | 0, _, _, _ => .bad
  | n + 1, c, b, δ => ofRes (c δ) fun v δ1 => if v = true then (match b δ1 with
    | .nx δ2 => whileN n c b δ2
    | .ct δ2 => whileN n c b δ2
    | .bk δ2 => .nx δ2
    | r => r) else .nx δ1
/-- so many turns at the most -/
def turns : Nat := 1000000
def whileS (c : M Bool) (b : SM) : SM := whileN turns c b
theorem ds_while {cb : M Bool} {t : SM} {body : List Stmt} (hp : PassesOwn (model X.prog X.w) X.A X.env X.xe) (hc : PT X c (bD X.bas X.mg W cb)) (hb : PSs X body (sD X.bas X.mg W t)) : PS X (.While c body [] pos) (sD X.bas X.mg W (whileS cb t)) :=
  PS.mono (ps_while hp hc hb) fun D σ H h => by
    refine ⟨fun m σ H => sD X.bas X.mg W (whileN m cb t) D σ H, ⟨turns, h⟩, fun m σ H ⟨P, δ, S, h⟩ => ?_⟩
    cases m with
    | zero => exact h.elim
    | succ n =>
      refine ⟨P, δ, S, ofRes_ok (Stp.refl _ _ _ _) h fun v δ1 b H1 P1 er S1 s1 r1 h => ?_⟩
      cases r1
      by_cases hv : v = true
      · rw [if_pos hv] at h ⊢
        refine ⟨fun σ' H' => sD X.bas X.mg W (whileN n cb t) D σ' H', fun σ' H' q => ⟨n, Nat.lt_succ_self n, q⟩, P1, δ1, S1, ?_⟩
        cases et : t δ1 with
        | nx δ2 => rw [et] at h; exact fun σ2 H2 P2 S2 s2 => ⟨P2, δ2, S2, sK.back (s1.trans s2) h⟩
        | ct δ2 => rw [et] at h; exact fun σ2 H2 P2 S2 s2 => ⟨P2, δ2, S2, sK.back (s1.trans s2) h⟩
        | bk δ2 => rw [et] at h; exact fun σ2 H2 P2 S2 s2 => h σ2 H2 P2 S2 (s1.trans s2)
        | rt fr d δ2 => rw [et] at h; exact sK.back (r := .rt fr d δ2) (Dn := D) s1 h
        | ex x δ2 => rw [et] at h; exact sK.back (r := .ex x δ2) (Dn := D) s1 h
        | bad => rw [et] at h; exact h
      · rw [if_neg hv] at h ⊢
        exact h σ H1 P1 S1 s1
/-! ### for -/
/-- slots forgotten -/
def fgt (fg : List Nat) (δ : DEnv) : DEnv := match fg with
  | [] => δ
  | i :: r => fgt r (if free δ i = true then δ.set i none else δ)
theorem fgt_ok {K : Bas} {P H P0 H0 : Hp} {σ0 σ : Sg} {δ0 : DEnv} : ∀ {fg : List Nat} {δ : DEnv}, SR K P H σ δ → Stp σ0 δ0 P0 H0 σ δ P H → SR K P H σ (fgt fg δ) ∧ Stp σ0 δ0 P0 H0 σ (fgt fg δ) P H
  | [], δ, S, s => ⟨S, s⟩
  | i :: r, δ, S, s => by
    unfold fgt
    by_cases h : free δ i = true
    · rw [if_pos h]
      exact fgt_ok (S.drop i) (s.drop i fun d z => ((free_at h).2 _ d z).1 rfl)
    · rw [if_neg h]; exact fgt_ok S s
def loopS (g : TgM) (b : SM) (fg : List Nat) : List D → SM
  | [], δ => .nx δ
  | d :: ds, δ => match g d δ with
    | none => .bad
    | some δ1 => match b δ1 with
      | .nx δ2 => loopS g b fg ds (fgt fg δ2)
      | .ct δ2 => loopS g b fg ds (fgt fg δ2)
      | .bk δ2 => .nx (fgt fg δ2)
      | r => r
def forS (f : M (List D)) (g : TgM) (b : SM) (fg : List Nat) : SM := fun δ => ofRes (f δ) fun ds δ1 => loopS g b fg ds δ1
/-- an iterator tells these data, whatever has been done since -/
def ItD (K : Bas) (J : It) (ds : List D) (σ1 : Sg) (δ1 : DEnv) (P1 H1 : Hp) : Prop := ∀ i σ2 δ2 P2 H2, SR K P2 H2 σ2 δ2 → Stp σ1 δ1 P1 H1 σ2 δ2 P2 H2 →
  (∀ d, ds[i]? = some d → J.go i H2 ∧ ∀ x H3, J.yld i H2 x H3 → ∃ P3, Ext P2 H2 P3 H3 ∧ Rep K P3 x d) ∧ (i = ds.length → J.stop i H2)
def iD (K : Bas) (mg : Str → Option Value) (W : WX) (f : M (List D)) : TI := fun σ H R => ∃ P δ, SR K P H σ δ ∧ match f δ with
  | .ok ds δ' => ∀ J H1 P1, SR K P1 H1 σ δ' → Stp σ δ P H σ δ' P1 H1 → ItD K J ds σ δ' P1 H1 → R J H1
  | .ex x δ' => ∀ cls d H' P', SR K P' H' σ δ' → Stp σ δ P H σ δ' P' H' → ExR K mg P' H' cls d x → W cls d σ H'
  | .bad => False
theorem ds_for {ts : List Nat} {tg iter : Expr} {body : List Stmt} {fi : M (List D)} {g : TgM} {t : SM} (fg : List Nat) (hp : PassesOwn (model X.prog X.w) X.A X.env X.xe) (hc : X.calm = true) (hi : PI X tg iter (iD X.bas X.mg W fi)) (hg : PG X tg (gDt X.bas ts g)) (hb : PSs X body (sD X.bas X.mg W t))
    (hs : ∀ x, foldedSetIterable iter X.env x = pure x) : PS X (.For tg iter body [] pos) (sD X.bas X.mg W (forS fi g t fg)) :=
  PS.mono (ps_for hp hc hi hg hb hs) fun D σ H ⟨P, δ, S, h⟩ => by
    refine ⟨P, δ, S, ?_⟩
    unfold forS at h
    cases ef : fi δ with
    | bad => rw [ef] at h; exact h.elim
    | ex x δ1 => rw [ef] at h; exact fun c d H1 P1 S1 s1 r1 => h c d σ H1 P1 S1 s1 r1
    | ok ds δ1 =>
      rw [ef] at h
      intro J H1 P1 S1 s1 hJ
      have h1 := sK.back (r := loopS g t fg ds δ1) s1 h
      refine ⟨fun i m σ2 H2 => m = ds.length - i ∧ i ≤ ds.length ∧ ∃ P2 δ2, SR X.bas P2 H2 σ2 δ2 ∧ Stp σ δ1 P1 H1 σ2 δ2 P2 H2 ∧ sK X.bas X.mg W (loopS g t fg (ds.drop i) δ2) σ2 δ2 P2 H2 D, ⟨ds.length, by simp, Nat.zero_le _, P1, δ1, S1, Stp.refl _ _ _ _, h1⟩, ?_⟩
      rintro i m σ2 H2 ⟨rfl, hi, P2, δ2, S2, s2, h2⟩
      obtain ⟨hgo, hstop⟩ := hJ i σ2 δ2 P2 H2 S2 s2
      by_cases hlt : i < ds.length
      · right
        have hd : ds[i]? = some ds[i] := List.getElem?_eq_getElem hlt
        obtain ⟨go, yld⟩ := hgo _ hd
        rw [List.drop_eq_getElem_cons hlt] at h2
        refine ⟨go, fun σ' H' => ∃ P' δ', SR X.bas P' H' σ' δ' ∧ Stp σ δ1 P1 H1 σ' δ' P' H' ∧ sK X.bas X.mg W (loopS g t fg (ds.drop (i + 1)) δ') σ' δ' P' H' D, fun σ' H' q => ⟨ds.length - (i + 1), by omega, rfl, hlt, q⟩, fun x H3 y => ?_⟩
        obtain ⟨P3, x3, r3⟩ := yld x H3 y
        have S3 := S2.ext x3
        have s3 : Stp σ2 δ2 P2 H2 σ2 δ2 P3 H3 := x3.stp
        refine ⟨P3, δ2, ds[i], S3, r3, ?_⟩
        change sK X.bas X.mg W (match g ds[i] δ2 with | none => .bad | some δ1 => _) σ2 δ2 P2 H2 D at h2
        cases eg : g ds[i] δ2 with
        | none => rw [eg] at h2; exact h2.elim
        | some δ4 =>
          rw [eg] at h2
          dsimp only at h2
          intro σ4 H4 P4 S4 s4 _
          refine ⟨P4, δ4, S4, ?_⟩
          have s24 := s3.trans s4
          have fin : ∀ δ5, sK X.bas X.mg W (loopS g t fg (ds.drop (i + 1)) (fgt fg δ5)) σ2 δ2 P2 H2 D → ∀ σ5 H5 P5, SR X.bas P5 H5 σ5 δ5 → Stp σ4 δ4 P4 H4 σ5 δ5 P5 H5 →
              ∃ P' δ', SR X.bas P' H5 σ5 δ' ∧ Stp σ δ1 P1 H1 σ5 δ' P' H5 ∧ sK X.bas X.mg W (loopS g t fg (ds.drop (i + 1)) δ') σ5 δ' P' H5 D := fun δ5 hq σ5 H5 P5 S5 s5 => by
            obtain ⟨S6, s6⟩ := fgt_ok (fg := fg) S5 (s24.trans s5)
            exact ⟨P5, _, S6, s2.trans s6, sK.back s6 hq⟩
          cases et : t δ4 with
          | nx δ5 => rw [et] at h2; exact fun σ5 H5 P5 S5 s5 => fin δ5 h2 σ5 H5 P5 S5 s5
          | ct δ5 => rw [et] at h2; exact fun σ5 H5 P5 S5 s5 => fin δ5 h2 σ5 H5 P5 S5 s5
          | bk δ5 =>
            rw [et] at h2
            intro σ5 H5 P5 S5 s5
            obtain ⟨S6, s6⟩ := fgt_ok (fg := fg) S5 (s24.trans s5)
            exact h2 σ5 H5 P5 S6 s6
          | rt fr d δ5 => rw [et] at h2; exact sK.back (r := .rt fr d δ5) (Dn := D) s24 h2
          | ex x δ5 => rw [et] at h2; exact sK.back (r := .ex x δ5) (Dn := D) s24 h2
          | bad => rw [et] at h2; exact h2
      · left
        have e : i = ds.length := by omega
        subst e
        refine ⟨hstop rfl, ?_⟩
        rw [List.drop_length] at h2
        exact h2 σ2 H2 P2 S2 (Stp.refl _ _ _ _)
end
end DL

/-! # DL, part 10: what a loop walks. -/
namespace DL
open PySem PySem.Spec PyProof.Rows L2

/-! ### a list or a tuple -/
def SqB (K : PySem.W.Frag) (H : Hp) : Bool → Addr → List V → Prop
  | false, a, xs => SqL K H a xs
  | true, a, xs => SqT K H a xs
def IterB (h : Heap) : Bool → Addr → Addr → Nat → Prop
  | false, it, l, i => h.IsListIter it l i
  | true, it, l, i => h.IsTupleIter it l i
def ItemsB (h : Heap) : Bool → Addr → Array Value → Prop
  | false, l, vs => h.IsList l vs
  | true, l, vs => h.IsTuple l vs
def itO : Bool → Addr → Obj
  | false, l => { cls := .type "list_iterator", data := .fields #[.ref l, .int 0 0] }
  | true, l => { cls := .type "tuple_iterator", data := .fields #[.ref l, .int 0 0] }
theorem drawsB {prog : Program} {w : World} {A : Around} (hh : A.handled = none) (b : Bool) (it l : Addr) (hne : l ≠ it) (items : Array Value) :
    Draws prog w A it [it, l] items.size (fun i v => items[i]? = some v) (fun i h => IterB h b it l i ∧ ItemsB h b l items) := by
  cases b with
  | false => exact Draws.list hh it l hne items
  | true => exact Draws.tuple hh it l hne items
theorem beginsB (b : Bool) (l : Addr) (items : Array Value) : Begins (.ref l) (itO b l) fun h => ItemsB h b l items := by
  cases b with
  | false => exact begins_list l items
  | true => exact begins_tuple l items
theorem iterB_new {h : Heap} {b : Bool} {it l : Addr} (e : h.get? it = some (itO b l)) : IterB h b it l 0 := by
  cases b with
  | false => exact ⟨_, e, rfl, rfl⟩
  | true => exact ⟨_, e, rfl, rfl⟩
theorem IterB.at {h h' : Heap} {b : Bool} {it l : Addr} {i : Nat} (x : IterB h b it l i) (k : ∀ o, h.get? it = some o → h'.get? it = some o) : IterB h' b it l i := by
  cases b with
  | false => obtain ⟨o, e, r⟩ := x; exact ⟨o, k o e, r⟩
  | true => obtain ⟨o, e, r⟩ := x; exact ⟨o, k o e, r⟩
theorem IterB.obj {h : Heap} {b : Bool} {it l : Addr} {i : Nat} (x : IterB h b it l i) : ∃ o, h.get? it = some o ∧ ∀ v, o.data ≠ .cell v := by
  cases b with
  | false => obtain ⟨o, e, c, d⟩ := x; exact ⟨o, e, fun v z => by rw [d] at z; cases z⟩
  | true => obtain ⟨o, e, c, d⟩ := x; exact ⟨o, e, fun v z => by rw [d] at z; cases z⟩
theorem ItemsB.at {h h' : Heap} {b : Bool} {l : Addr} {vs : Array Value} (x : ItemsB h b l vs) (k : ∀ o, h.get? l = some o → h'.get? l = some o) : ItemsB h' b l vs := by
  cases b with
  | false => exact Heap.IsList.at x k
  | true => obtain ⟨o, e, r⟩ := x; exact ⟨o, k o e, r⟩
theorem ItemsB.lt {h : Heap} {b : Bool} {l : Addr} {vs : Array Value} (x : ItemsB h b l vs) : l < h.objs.size := by
  cases b with
  | false => obtain ⟨o, e, r⟩ := x; exact Heap.lt_size e
  | true => obtain ⟨o, e, r⟩ := x; exact Heap.lt_size e
section
variable {X : Cx} {pins : List (Addr × Obj)} {σ : Sg} {H : Hp} {s : Shared}
theorem SqB.inv {b : Bool} {a : Addr} {xs : List V} (I : Inv X pins σ H s) (h : SqB X.K H b a xs) : ∃ its, Vals xs its ∧ ItemsB s.heap b a its.toArray := by
  cases b with
  | false => obtain ⟨its, rv, p, _⟩ := I.list h; exact ⟨its, rv, p.isList⟩
  | true => obtain ⟨its, rv, p, _⟩ := I.tuple h; exact ⟨its, rv, p⟩
theorem SqB.inj {b : Bool} {a : Addr} {xs ys : List V} (I : Inv X pins σ H s) (h : SqB X.K H b a xs) (h' : SqB X.K H b a ys) : xs = ys := by
  cases b with
  | false => exact I.list_inj h h'
  | true => exact I.tuple_inj h h'
end
/-! ### enumerate -/
def IteB (K : PySem.W.Frag) (b : Bool) (a : Addr) : It :=
  ⟨fun i H => ∃ (xs : List V) (x : V), SqB K H b a xs ∧ xs[i]? = some x, fun i H v H' => ∃ T x, v = .ref T ∧ H T = none ∧ H' = upd H T (.tup [.int (i : Nat), x]) ∧ ∀ xs, SqB K H b a xs → xs[i]? = some x, fun i H => ∃ xs : List V, SqB K H b a xs ∧ xs.length ≤ i⟩
theorem turn_enumB {P : Program} {w : World} {K : PySem.W.Frag} {elts : List Expr} {kk : Nat} {tpos : Pos} {b : Bool} {a e it : Addr} (ne1 : a ≠ e) (ne2 : a ≠ it) (ne : e ≠ it) :
    Turn P w K (.Tuple elts kk tpos) (IteB K b a) [e, it] e (fun i h => (∃ old, IsEnum h e it ((i : Nat) : Int) old) ∧ IterB h b it a i) where
  mem := by simp
  obj := fun i h st c hc => by
    obtain ⟨⟨old, he⟩, hi⟩ := st
    have e' : c = e ∨ c = it := by simpa using hc
    rcases e' with z | z
    · rw [z]; exact ⟨_, he, fun v q => nomatch q⟩
    · rw [z]; exact hi.obj
  keep := fun i h h' st k => let ⟨⟨old, he⟩, hi⟩ := st; ⟨⟨old, k e (by simp) _ he⟩, hi.at fun o q => k it (by simp) o q⟩
  item := by
    intro X hP hw hK hc i pins s σ H E I hf st hg
    subst hP hw hK
    obtain ⟨⟨old, he⟩, hit⟩ := st
    obtain ⟨xs, x, hq, hx⟩ := hg
    obtain ⟨its, rv, p⟩ := SqB.inv I hq
    obtain ⟨u, hu, ru⟩ := rv.get hx
    have hel : e < s.heap.objs.size := Heap.lt_size he
    have hil : it < s.heap.objs.size := by obtain ⟨_, q, _⟩ := hit.obj; exact Heap.lt_size q
    have hlt : i < its.toArray.size := by
      have := (List.getElem?_eq_some_iff.mp hu).1
      simpa using this
    refine wpAny_pyNext_enum_itemD (drawsB (A := X.A.in1) (I.ok.hd hc) b it a ne2 its.toArray) he ⟨hit, p⟩ hlt ne (by simp [ne, ne1.symm]) fun y h' tk hy ho hit' hT hsz hk => ?_
    have ey : y = u := by
      have : its.toArray[i]? = some u := by simpa using hu
      rw [this] at hy; cases hy; rfl
    subst ey
    refine ⟨_, rfl, wpAny_letOwnedTupleGo_enum (s := { s with heap := h', toks := tk + 1 }) ho fun h'' he' sb => ?_⟩
    have hT2 : h''.get? s.heap.objs.size = some { cls := .type "tuple", data := .seq #[.int i tk, y] } := (sb.2 _ (Nat.ne_of_gt hel)).trans hT
    have new : ObjOk X.prog X.w (upd H s.heap.objs.size (.tup [.int (i : Nat), x])) h'' s.heap.objs.size (.tup [.int (i : Nat), x]) :=
      ⟨by show 2 ≤ sizeLine; decide, [.int i tk, y], .cons ⟨_, rfl⟩ (.cons ru .nil), ⟨_, hT2, rfl, _, rfl⟩⟩
    have I1 : Inv X pins σ (upd H s.heap.objs.size (.tup [.int (i : Nat), x])) { s with heap := h'', toks := tk + 1 } :=
      I.turnedNew (ch := [e, it]) (fun b ob hb q => (sb.2 b (fun z => hb (by simp [z]))).trans (hk b ob (fun z => hb (by simp [z])) (fun z => hb (by simp [z])) q)) hf (Nat.le_refl _) new
    refine ⟨.ref s.heap.objs.size, _, I1, rfl, ⟨_, x, rfl, I.hok.fresh (Nat.le_refl _), rfl, fun ys hy => by rw [SqB.inj I hy hq]; exact hx⟩, ⟨⟨y, ?_⟩, hit'.1.at fun o q => (sb.2 it (Ne.symm ne)).trans q⟩, fun b hb => ?_⟩
    · have e1 : ((i + 1 : Nat) : Int) = (i : Int) + 1 := by omega
      rw [e1]; exact he'
    · have hb' : b < s.heap.objs.size := by
        have e' : b = e ∨ b = it := by simpa using hb
        rcases e' with z | z
        · rw [z]; exact hel
        · rw [z]; exact hil
      rw [upd_ne (Nat.ne_of_lt hb')]
      exact (hf b hb).1
  done := by
    intro X hP hw hK hc i pins s σ H E I hf st hg
    subst hP hw hK
    obtain ⟨⟨old, he⟩, hit⟩ := st
    obtain ⟨xs, hq, hx⟩ := hg
    obtain ⟨its, rv, p⟩ := SqB.inv I hq
    obtain ⟨f0, f1, f2, f3, f4, f5⟩ := hf it (by simp)
    have hl := rv.length
    have hn : its.toArray[i]? = none := by simp; omega
    have fin : ∀ h', Heap.ExtBut it s.heap h' → Inv X pins σ H { s with heap := h' } := fun h' eb => I.turned (t' := s.toks) (fun b o hb q => eb b o hb q) f0 f1 f3 f4 f5
    have hT : s.TypeIs (.ref e) "enumerate" := ⟨_, he, rfl⟩
    unfold pyNext
    refine wpAny_bind (wpAny_attempt (wpAny_callSpecial?_slot (name := Str.ofString "__next__") hT F.slot_enumerate_next
      (wpAny_call_entry F.slot_enumerate_next hT F.entry_enumerate_next ?_ (F.args_enumerate_next_1 _))))
    show wpAny _ _ (field (.ref e) 2 >>= _) _ _ _
    refine wpAny_bind (wpAny_field he rfl (x := .ref it) rfl ?_)
    refine wpAny_bind ?_
    have go : ∀ {Q : Value → Shared → Prop} {E : Value → Shared → Prop}, (∀ h' x, Heap.ExtBut it s.heap h' → (∃ o, h'.get? x = some o ∧ o.cls = .type "StopIteration") → E (.ref x) { s with heap := h' }) →
        wpAny (model X.prog X.w) X.A.in1 (Builtin.SmallTypes.nextOf (.ref it)) Q E s := fun {Q E} hE => by
      cases b with
      | false => exact wpAny_nextOf_list_end (I.ok.hd hc) hit p hn hE
      | true => exact wpAny_nextOf_tuple_end (I.ok.hd hc) hit p hn hE
    refine go fun h' x he' hx' => ?_
    obtain ⟨o, ho, hcl⟩ := hx'
    refine wpAny_bind (wpAny_isInstance (T := "StopIteration") (b := true) ⟨o, ho, hcl⟩ isSubtype_stop ?_)
    exact wpAny_pure ⟨rfl, fin h' he'⟩
  self := fun A i s Q E st h => let ⟨⟨_, he⟩, _⟩ := st; wpAny_pyIter_enum he h
open Sem (wp) in
set_option maxHeartbeats 1000000 in
theorem meets_enum1 {v : Value} {o : Obj} {H : Heap → Prop} (B : Begins v o H) :
    Meets (Builtin.«enumerate.__new__» ⟨[.type "enumerate", v], []⟩) (fun _ R s => H s.heap ∧
      R (.ok (.ret (.ref (s.heap.push o).objs.size))) { s with heap := (s.heap.push o).push { cls := .type "enumerate", data := .fields #[.none, .bool false, .ref s.heap.objs.size, rawInt 0, .none, .none] } }) :=
  .of_wp fun prog w A R s h => by
    obtain ⟨hp, g, d, tk, os⟩ := s; obtain ⟨h1, h⟩ := h
    have hsub := sub_enumerate
    have q1 : ∀ {A' : Around} {E : Value → Shared → Prop} {Q : Value → Shared → Prop}, Q (.ref hp.objs.size) ⟨hp.push o, g, d, tk, os⟩ → wpAny (model prog w) A' (pyIter v) Q E ⟨hp, g, d, tk, os⟩ :=
      fun q => B.iter prog w _ _ ⟨hp, g, d, tk, os⟩ _ h1 q
    wp_walk using q1
    refine wpAny_stack_any fun st => wpAny_pure ?_
    split
    · rename_i c _ _ _ _ _
      cases (c == Value.type "enumerate")
      · wp_walk using q1
        exact ⟨_, rfl, h⟩
      · wp_walk using q1
        exact ⟨_, rfl, h⟩
    · wp_walk using q1
      exact ⟨_, rfl, h⟩
theorem enum1_begins {prog : Program} {w : World} {A : Around} {E : Value → Shared → Prop} {s : Shared} {v : Value} {o : Obj} {H : Heap → Prop} {Q : Value → Shared → Prop} (B : Begins v o H) (h1 : H s.heap)
    (h : ∀ h', IsEnum h' (s.heap.objs.size + 1) s.heap.objs.size 0 .none → h'.get? s.heap.objs.size = some o → (∀ b o, s.heap.get? b = some o → h'.get? b = some o) → Q (.ref (s.heap.objs.size + 1)) { s with heap := h' }) :
    wpAny (model prog w) A (call (.type "enumerate") [v]) Q E s := by
  refine callType_new F.called_enumerate (by decide) (F.typeCall_enumerate_1 _) (F.newCall_enumerate_1 _) (fun obj => F.args_object_init_2 obj _) F.entry_enumerate_new
    (meets_enum1 B) ⟨h1, ?_⟩
  have hz : (s.heap.push o).objs.size = s.heap.objs.size + 1 := Heap.size_push ..
  show _ ∧ _
  rw [hz]
  have he : IsEnum ((s.heap.push o).push { cls := .type "enumerate", data := .fields #[.none, .bool false, .ref s.heap.objs.size, rawInt 0, .none, .none] }) (s.heap.objs.size + 1) s.heap.objs.size 0 .none := by
    have := Heap.get?_push_size (s.heap.push o) (o := { cls := .type "enumerate", data := .fields #[.none, .bool false, .ref s.heap.objs.size, rawInt 0, .none, .none] }) rfl
    rw [hz] at this; exact this
  exact ⟨⟨_, he, rfl⟩, h _ he (Heap.get?_push_of_some _ (Heap.get?_push_size _ B.free)) fun b o x => Heap.get?_push_of_some _ (Heap.get?_push_of_some _ x)⟩
def iEnumB (K : PySem.W.Frag) (ta : TA) : TI := fun σ H R => ta σ H fun vs H1 => ∃ b a xs, vs = [.ref a] ∧ SqB K H1 b a xs ∧ R (IteB K b a) H1
theorem pi_enumB {X : Cx} {e : Expr} {ta : TA} {p pos tpos : Pos} {elts : List Expr} {kk : Nat} (hg : Gl X "enumerate") (hm : X.mg "enumerate" = none) (ha : PA X [e] ta) (hs : starEach [e] X.env = [(false, eval e X.env)]) :
    PI X (.Tuple elts kk tpos) (.Call (.Name "enumerate" p) [e] [] pos) (iEnumB X.K ta) := by
  refine ⟨fun pins s σ H R I h => ?_⟩
  refine Call_ (ld_blt I hg hm boot_enumerate (PyProof.Rows.callWith_type1 (thn (ha.run pos pins s σ H _ I h) fun us s1 ⟨vs, H1, I1, r1, q1⟩ => ?_) hs rfl))
  obtain ⟨b, a, xs, ex, hq, q⟩ := q1
  subst ex
  cases r1 with
  | cons r rr =>
    cases rr
    cases r
    obtain ⟨its, rv, p'⟩ := SqB.inv I1 hq
    have la := p'.lt
    have fin : ∀ h', IsEnum h' (s1.heap.objs.size + 1) s1.heap.objs.size 0 .none → h'.get? s1.heap.objs.size = some (itO b a) → (∀ c o, s1.heap.get? c = some o → h'.get? c = some o) →
        wpAny (model X.prog X.w) X.A (pyIter (.ref (s1.heap.objs.size + 1))) (PIE X pins σ (.Tuple elts kk tpos) R) X.xe { s1 with heap := h' } := fun h' he hit hk => by
      refine wpAny_pyIter_enum he ?_
      have I2 : Inv X pins σ H1 { s1 with heap := h' } := I1.kept (t' := s1.toks) hk
      refine ⟨s1.heap.objs.size + 1, [s1.heap.objs.size + 1, s1.heap.objs.size], _, _, H1, rfl, I2, turn_enumB (b := b) (a := a) (e := s1.heap.objs.size + 1) (it := s1.heap.objs.size) (Nat.ne_of_lt (Nat.lt_succ_of_lt la)) (Nat.ne_of_lt la) (Nat.succ_ne_self _), ⟨⟨.none, he⟩, iterB_new hit⟩, fun b hb => ?_, q⟩
      have e' : b = s1.heap.objs.size + 1 ∨ b = s1.heap.objs.size := by simpa using hb
      have hle : s1.heap.objs.size ≤ b := by
        rcases e' with z | z
        · rw [z]; exact Nat.le_add_right _ _
        · rw [z]; exact Nat.le_refl _
      exact I1.fpOk hle (I1.hok.fresh hle)
    exact enum1_begins (beginsB b a its.toArray) p' fun h' he ho hk => fin h' he ho hk
/-! ### zip of two -/
def ItzB (K : PySem.W.Frag) (b1 b2 : Bool) (a1 a2 : Addr) : It :=
  ⟨fun i H => ∃ (xs ys : List V) (x y : V), SqB K H b1 a1 xs ∧ SqB K H b2 a2 ys ∧ xs[i]? = some x ∧ ys[i]? = some y,
    fun i H v H' => ∃ T x y, v = .ref T ∧ H T = none ∧ H' = upd H T (.tup [x, y]) ∧ (∀ xs, SqB K H b1 a1 xs → xs[i]? = some x) ∧ ∀ ys, SqB K H b2 a2 ys → ys[i]? = some y,
    fun i H => ∃ xs ys : List V, SqB K H b1 a1 xs ∧ SqB K H b2 a2 ys ∧ i ≤ xs.length ∧ i ≤ ys.length ∧ (i = xs.length ∨ i = ys.length)⟩
theorem turn_zipB {P : Program} {w : World} {K : PySem.W.Frag} {elts : List Expr} {kk : Nat} {tpos : Pos} {b1 b2 : Bool} {a1 a2 z TI TO i1 i2 : Addr} (D : ZipSep2 z TI TO i1 i2 [i1, a1] [i2, a2]) (n1 : a1 ≠ i1) (n2 : a2 ≠ i2) :
    Turn P w K (.Tuple elts kk tpos) (ItzB K b1 b2 a1 a2) [z, TI, TO, i1, i2] z (fun i h => IsZip h z TI TO .none ∧ IsTupOf2 h TI (.ref i1) (.ref i2) ∧ (∃ x y, IsTupOf2 h TO x y) ∧ IterB h b1 i1 a1 i ∧ IterB h b2 i2 a2 i) where
  mem := by simp
  obj := fun i h st c hc => by
    obtain ⟨hz, hTI, ⟨x, y, hTO⟩, h1, h2⟩ := st
    have e' : c = z ∨ c = TI ∨ c = TO ∨ c = i1 ∨ c = i2 := by simpa using hc
    rcases e' with q | q | q | q | q
    · rw [q]; exact ⟨_, hz, fun v q => nomatch q⟩
    · rw [q]; exact ⟨_, hTI, fun v q => nomatch q⟩
    · rw [q]; exact ⟨_, hTO, fun v q => nomatch q⟩
    · rw [q]; exact h1.obj
    · rw [q]; exact h2.obj
  keep := fun i h h' st k => by
    obtain ⟨hz, hTI, ⟨x, y, hTO⟩, h1, h2⟩ := st
    exact ⟨k z (by simp) _ hz, k TI (by simp) _ hTI, ⟨x, y, k TO (by simp) _ hTO⟩, h1.at fun o q => k i1 (by simp) o q, h2.at fun o q => k i2 (by simp) o q⟩
  item := by
    intro X hP hw hK hc i pins s σ H E I hf st hg
    subst hP hw hK
    obtain ⟨hz, hTI, ⟨x0, y0, hTO⟩, h1, h2⟩ := st
    obtain ⟨xs, ys, x, y, hqx, hqy, hx, hy⟩ := hg
    obtain ⟨its, rv, p⟩ := SqB.inv I hqx
    obtain ⟨its2, rv2, p2⟩ := SqB.inv I hqy
    obtain ⟨u, hu, ru⟩ := rv.get hx
    obtain ⟨u2, hu2, ru2⟩ := rv2.get hy
    have hzl : z < s.heap.objs.size := Heap.lt_size hz
    have l1 : i < its.toArray.size := by simpa using (List.getElem?_eq_some_iff.mp hu).1
    have l2 : i < its2.toArray.size := by simpa using (List.getElem?_eq_some_iff.mp hu2).1
    refine wpAny_pyNext_zipD2_item D (drawsB (A := X.A.in1) (I.ok.hd hc) b1 i1 a1 n1 its.toArray) (drawsB (A := X.A.in1) (I.ok.hd hc) b2 i2 a2 n2 its2.toArray) hz hTI hTO ⟨h1, p⟩ ⟨h2, p2⟩ l1 l2 fun v1 v2 h' tk e1 e2 z' TO' h1' h2' hT hsz hk => ?_
    obtain rfl : v1 = u := by
      have : its.toArray[i]? = some u := by simpa using hu
      rw [this] at e1; cases e1; rfl
    obtain rfl : v2 = u2 := by
      have : its2.toArray[i]? = some u2 := by simpa using hu2
      rw [this] at e2; cases e2; rfl
    refine ⟨_, rfl, wpAny_letOwnedTupleGo_zip (s := { s with heap := h', toks := tk }) z' fun h'' z'' sb => ?_⟩
    have hT2 : h''.get? s.heap.objs.size = some { cls := .type "tuple", data := .seq #[v1, v2] } := (sb.2 _ (Nat.ne_of_gt hzl)).trans hT
    have new : ObjOk X.prog X.w (upd H s.heap.objs.size (.tup [x, y])) h'' s.heap.objs.size (.tup [x, y]) :=
      ⟨by show 2 ≤ sizeLine; decide, [v1, v2], .cons ru (.cons ru2 .nil), ⟨_, hT2, rfl, _, rfl⟩⟩
    have I1 : Inv X pins σ (upd H s.heap.objs.size (.tup [x, y])) { s with heap := h'', toks := tk } :=
      I.turnedNew (ch := [z, TI, TO, i1, i2]) (fun c o hb q => (sb.2 c (fun q' => hb (by simp [q']))).trans (hk c o (fun q' => hb (by simp [q'])) (fun q' => hb (by simp [q'])) (fun q' => hb (by simp [q'])) (fun q' => hb (by simp [q'])) q)) hf (Nat.le_refl _) new
    refine ⟨.ref s.heap.objs.size, _, I1, rfl, ⟨_, x, y, rfl, I.hok.fresh (Nat.le_refl _), rfl, fun l hl => by rw [SqB.inj I hl hqx]; exact hx, fun l hl => by rw [SqB.inj I hl hqy]; exact hy⟩, ⟨z'', ?_, ⟨v1, v2, ?_⟩, ?_, ?_⟩, fun c hcm => ?_⟩
    · exact (sb.2 _ D.TIz).trans (hk _ _ D.TIz D.TITO D.TIi1 D.TIi2 hTI)
    · exact (sb.2 _ D.TOz).trans TO'
    · exact h1'.1.at fun o q => (sb.2 _ D.zi1.symm).trans q
    · exact h2'.1.at fun o q => (sb.2 _ D.zi2.symm).trans q
    · have hlt : c < s.heap.objs.size := by
        have e' : c = z ∨ c = TI ∨ c = TO ∨ c = i1 ∨ c = i2 := by simpa using hcm
        rcases e' with q | q | q | q | q
        · rw [q]; exact hzl
        · rw [q]; exact Heap.lt_size hTI
        · rw [q]; exact Heap.lt_size hTO
        · rw [q]; obtain ⟨_, e1, _⟩ := h1.obj; exact Heap.lt_size e1
        · rw [q]; obtain ⟨_, e2, _⟩ := h2.obj; exact Heap.lt_size e2
      rw [upd_ne (Nat.ne_of_lt hlt)]
      exact (hf c hcm).1
  done := by
    intro X hP hw hK hc i pins s σ H E I hf st hg
    subst hP hw hK
    obtain ⟨hz, hTI, ⟨x0, y0, hTO⟩, h1, h2⟩ := st
    obtain ⟨xs, ys, hqx, hqy, le1, le2, hend⟩ := hg
    obtain ⟨its, rv, p⟩ := SqB.inv I hqx
    obtain ⟨its2, rv2, p2⟩ := SqB.inv I hqy
    have l1 := rv.length
    have l2 := rv2.length
    exact wpAny_pyNext_zipD2_end D (drawsB (A := X.A.in1) (I.ok.hd hc) b1 i1 a1 n1 its.toArray) (drawsB (A := X.A.in1) (I.ok.hd hc) b2 i2 a2 n2 its2.toArray) hz hTI hTO ⟨h1, p⟩ ⟨h2, p2⟩ (by simp; omega) (by simp; omega) (by simp; omega)
      fun h' tk hk => ⟨rfl, I.turnedL (ch := [z, TI, TO, i1, i2]) (fun c o hb q =>
      hk c o (fun q' => hb (by simp [q'])) (fun q' => hb (by simp [q'])) (fun q' => hb (by simp [q'])) (fun q' => hb (by simp [q'])) q) hf⟩
  self := fun A i s Q E st h => wpAny_pyIter_zip st.1 h
def iZipB (K : PySem.W.Frag) (ta : TA) : TI := fun σ H R => ta σ H fun vs H1 => ∃ b1 b2 a1 a2 xs ys, vs = [.ref a1, .ref a2] ∧ SqB K H1 b1 a1 xs ∧ SqB K H1 b2 a2 ys ∧ R (ItzB K b1 b2 a1 a2) H1
theorem pi_zipB {X : Cx} {e e2 : Expr} {ta : TA} {p pos tpos : Pos} {elts : List Expr} {kk : Nat} (hg : Gl X "zip") (hm : X.mg "zip" = none) (ha : PA X [e, e2] ta)
    (hs : starEach [e, e2] X.env = (false, eval e X.env) :: starEach [e2] X.env) (hpl : (backTo pos (starEach [e2] X.env)).any (·.1) = false) :
    PI X (.Tuple elts kk tpos) (.Call (.Name "zip" p) [e, e2] [] pos) (iZipB X.K ta) := by
  refine ⟨fun pins s σ H R I h => ?_⟩
  refine Call_ (ld_blt I hg hm PyProof.Rows.boot_zip (PyProof.Rows.callWith_type1 (thn (ha.run pos pins s σ H _ I h) fun us s1 ⟨vs, H1, I1, r1, q1⟩ => ?_) hs hpl))
  obtain ⟨b1, b2, a1, a2, xs, ys, ex, hqx, hqy, q⟩ := q1
  subst ex
  cases r1 with
  | cons r rr =>
    cases rr with
    | cons r' rr =>
      cases rr
      cases r
      cases r'
      have fresh5 : ∀ c, c ∈ [s1.heap.objs.size + 4, s1.heap.objs.size + 2, s1.heap.objs.size + 3, s1.heap.objs.size, s1.heap.objs.size + 1] → FpOk X pins H1 c := fun c hcm => by
        have e' : c = s1.heap.objs.size + 4 ∨ c = s1.heap.objs.size + 2 ∨ c = s1.heap.objs.size + 3 ∨ c = s1.heap.objs.size ∨ c = s1.heap.objs.size + 1 := by simpa using hcm
        have hle : s1.heap.objs.size ≤ c := by
          rcases e' with z | z | z | z | z
          · rw [z]; exact Nat.le_add_right _ _
          · rw [z]; exact Nat.le_add_right _ _
          · rw [z]; exact Nat.le_add_right _ _
          · rw [z]; exact Nat.le_refl _
          · rw [z]; exact Nat.le_add_right _ _
        exact I1.fpOk hle (I1.hok.fresh hle)
      obtain ⟨its, rv, p1⟩ := SqB.inv I1 hqx
      obtain ⟨its2, rv2, p2⟩ := SqB.inv I1 hqy
      refine zip_begins2 (beginsB b1 a1 its.toArray) (beginsB b2 a2 its2.toArray) p1 p2 fun h' hz hTI hTO h1 h2 hsz hk => wpAny_pyIter_zip hz ?_
      have I2 : Inv X pins σ H1 { s1 with heap := h' } := I1.kept (t' := s1.toks) hk
      refine ⟨s1.heap.objs.size + 4, [s1.heap.objs.size + 4, s1.heap.objs.size + 2, s1.heap.objs.size + 3, s1.heap.objs.size, s1.heap.objs.size + 1], _, _, H1, rfl, I2,
        turn_zipB (b1 := b1) (b2 := b2) (a1 := a1) (a2 := a2) (zip_sep2 (fp1 := [a1]) (fp2 := [a2]) (fun c hc => (List.mem_singleton.mp hc) ▸ p1.lt) (fun c hc => (List.mem_singleton.mp hc) ▸ p2.lt)) (Nat.ne_of_lt p1.lt) (Nat.ne_of_lt (Nat.lt_succ_of_lt p2.lt)), ⟨hz, hTI, ⟨_, _, hTO⟩, iterB_new h1, iterB_new h2⟩, fresh5, q⟩

/-! ### by data -/
def optM {α : Type} (o : Option α) : M α := match o with
  | some a => pureM a
  | none => badM
/-- the items of a list or a tuple -/
def seqO : D → Option (List D)
  | .list xs => some xs
  | .tuple xs => some xs
  | _ => none
def mapM1 {α β : Type} (f : M α) (g : α → Option β) : M β := bindM f fun a => optM (g a)
/-- what a walk goes through: a list's or a tuple's items, a dict's keys -/
def walkO : D → Option (List D)
  | .list xs => some xs
  | .tuple xs => some xs
  | .dict m => if keyFor m (.int 0) = true then some (m.map (·.1)) else none
  | _ => none
def walkM (f : M R) : M (List D) := mapM1 (persM f) walkO
def one1 (l : List D) : Option D := match l with | [a] => some a | _ => none
def enumO (l : List D) : Option (List D) := match l with
  | [d] => (seqO d).map fun xs => xs.zipIdx.map fun p => .tuple [.int p.2, p.1]
  | _ => none
def zip2O (l : List D) : Option (List D) := match l with
  | [a, b] => match seqO a, seqO b with
    | some xs, some ys => some (List.zipWith (fun x y => .tuple [x, y]) xs ys)
    | _, _ => none
  | _ => none
def small (i : Int) : Bool := decide (-4611686018427387904 ≤ i) && decide (i < 4611686018427387904)
/-- lo, lo + 1, .. -/
def upTo (lo : Int) (n : Nat) : List D := (List.range n).map fun i => .int (lo + (i : Nat))
def range1O (l : List D) : Option (List D) := match l with
  | [.int j] => if small j = true then some (upTo 0 j.toNat) else none
  | _ => none
def range2O (l : List D) : Option (List D) := match l with
  | [.int i, .int j] => if (small i && small j) = true then some (upTo i (j - i).toNat) else none
  | _ => none
def downTo (i : Int) (n : Nat) : List D := (List.range n).map fun k => .int (i - (k : Nat))
def range3O (l : List D) : Option (List D) := match l with
  | [.int i, .int j, .int (-1)] => if (small i && small j) = true then some (downTo i (i - j).toNat) else none
  | _ => none
section
variable {K : Bas} {mg : Str → Option Value} {W : WX} {σ : Sg} {δ δ1 : DEnv} {P H P1 H1 : Hp} {X : Cx} {tg e e2 a b c : Expr} {f : M R} {fs : M (List D)}
theorem iD_bind {α β : Type} {rel : Rl β α} {f : M α} {g : α → Option (List D)} {R : It → Hp → Prop} {Q : β → Hp → Prop} (h : iD K mg W (mapM1 f g) σ H R)
    (k : ∀ d δ1 v H1 P1, SR K P1 H1 σ δ1 → (∃ H0, rel H0 P1 H1 σ δ1 v d) → ∀ ds, g d = some ds → (∀ J, ItD K J ds σ δ1 P1 H1 → R J H1) → Q v H1) : gD K mg W rel f σ H Q := by
  obtain ⟨P, δ, S, h⟩ := h
  refine ⟨P, δ, S, ?_⟩
  unfold mapM1 bindM at h
  cases ef : f δ with
  | bad => rw [ef] at h; exact h
  | ex x δ1 => rw [ef] at h; exact h
  | ok a δ1 =>
    rw [ef] at h
    intro v H1 P1 S1 s1 r1
    cases eg : g a with
    | none =>
      have h' : (match (optM (g a) δ1 : Res (List D)) with | .ok ds δ' => _ | .ex x δ' => _ | .bad => False) := h
      rw [eg] at h'; exact h'.elim
    | some ds =>
      refine k a δ1 v H1 P1 S1 ⟨H, r1⟩ ds eg fun J hJ => ?_
      have h' : (match (optM (g a) δ1 : Res (List D)) with | .ok ds δ' => ∀ J H1 P1, SR K P1 H1 σ δ' → Stp σ δ P H σ δ' P1 H1 → ItD K J ds σ δ' P1 H1 → R J H1 | .ex x δ' => ∀ cls d H' P', SR K P' H' σ δ' → Stp σ δ P H σ δ' P' H' → ExR K mg P' H' cls d x → W cls d σ H' | .bad => False) := h
      rw [eg] at h'
      exact h' J H1 P1 S1 s1 hJ
/-- a persistent list or tuple -/
theorem seqB_of {v : V} {d : D} {ds : List D} (r : Rep K P v d) (h : seqO d = some ds) : ∃ b a vs, v = .ref a ∧ SqB K.K P b a vs ∧ RepL K P vs ds := by
  cases r with
  | lst e r => cases h; exact ⟨false, _, _, rfl, .inl (.inl e), r⟩
  | tup e r => cases h; exact ⟨true, _, _, rfl, e, r⟩
  | non => cases h
  | bl _ => cases h
  | int _ => cases h
  | str _ => cases h
  | dK _ _ => cases h
  | dT _ _ _ => cases h
theorem sqB_sub {P P' : Hp} {b : Bool} {a : Addr} {vs : List V} (s : Sub P P') (h : SqB K.K P b a vs) : SqB K.K P' b a vs := by
  cases b with
  | false => exact sqL_sub s h
  | true => exact sqT_sub s h
/-- an iterator over what stands at a, its items each as they are -/
theorem itD_list {ds : List D} {vs : List V} {a : Addr} (h : SqL K.K P1 a vs) (r : RepL K P1 vs ds) : ItD K (Itl K.K a) ds σ δ1 P1 H1 := fun i σ2 δ2 P2 H2 S2 s2 => by
  have q := sqL_sub (s2.sub.trans S2.ph) h
  refine ⟨fun d hd => ?_, fun hl => ⟨vs, q, by rw [r.length]; omega⟩⟩
  obtain ⟨x, hx, rx⟩ := r.get' hd
  exact ⟨⟨vs, x, q, hx⟩, fun y H3 ⟨e, hy⟩ => by
    have := hy vs q
    rw [hx] at this; cases this
    subst e
    exact ⟨P2, Ext.refl S2.ph, s2.rep rx⟩⟩
theorem itD_tup {ds : List D} {vs : List V} {a : Addr} (h : SqT K.K P1 a vs) (r : RepL K P1 vs ds) : ItD K (Itt K.K a) ds σ δ1 P1 H1 := fun i σ2 δ2 P2 H2 S2 s2 => by
  have q := sqT_sub (s2.sub.trans S2.ph) h
  refine ⟨fun d hd => ?_, fun hl => ⟨vs, q, by rw [r.length]; omega⟩⟩
  obtain ⟨x, hx, rx⟩ := r.get' hd
  exact ⟨⟨vs, x, q, hx⟩, fun y H3 ⟨e, hy⟩ => by
    have := hy vs q
    rw [hx] at this; cases this
    subst e
    exact ⟨P2, Ext.refl S2.ph, s2.rep rx⟩⟩
def ItB (K : PySem.W.Frag) : Bool → Addr → It
  | false, a => Itl K a
  | true, a => Itt K a
theorem itD_B {ds : List D} {vs : List V} {b : Bool} {a : Addr} (h : SqB K.K P1 b a vs) (r : RepL K P1 vs ds) : ItD K (ItB K.K b a) ds σ δ1 P1 H1 := by
  cases b with
  | false => exact itD_list h r
  | true => exact itD_tup h r
def iSeqB (K : PySem.W.Frag) (tl : TE) : TI := fun σ H R => tl σ H fun x H1 => ∃ a b xs, x = .ref a ∧ SqB K H1 b a xs ∧ R (ItB K b a) H1
theorem pi_seqB {tl : TE} (hl : PE X e tl) : PI X tg e (iSeqB X.K tl) := by
  refine ⟨fun pins s σ H R I h => ?_⟩
  refine thn (hl.run pins s σ H _ I h) fun v s1 ⟨x, H1, I1, r1, q1⟩ => ?_
  obtain ⟨a, b, xs, e, hq, q⟩ := q1
  subst e
  cases r1
  cases b with
  | false =>
    obtain ⟨its, rv, p, hz⟩ := I1.list hq
    refine wpAny_pyIter_list p.isList ?_
    refine ⟨s1.heap.objs.size, [s1.heap.objs.size], _, _, H1, rfl, I1.kept (t' := s1.toks) fun b o e => Heap.get?_push_of_some _ e, turn_list a _, ⟨_, Heap.get?_push_size _ rfl, rfl, rfl⟩, fun b hb => ?_, q⟩
    have e : b = s1.heap.objs.size := by simpa using hb
    subst e
    exact I1.fpOk (Nat.le_refl _) (I1.hok.fresh (Nat.le_refl _))
  | true =>
    obtain ⟨its, rv, p, hz⟩ := I1.tuple hq
    refine wpAny_pyIter_tuple (show s1.heap.IsTuple a its.toArray from p) ?_
    refine ⟨s1.heap.objs.size, [s1.heap.objs.size], _, _, H1, rfl, I1.kept (t' := s1.toks) fun b o e => Heap.get?_push_of_some _ e, turn_tuple a _, ⟨_, Heap.get?_push_size _ rfl, rfl, rfl⟩, fun b hb => ?_, q⟩
    have e : b = s1.heap.objs.size := by simpa using hb
    subst e
    exact I1.fpOk (Nat.le_refl _) (I1.hok.fresh (Nat.le_refl _))
theorem PI.mono {wi wi' : TI} (h : PI X tg e wi) (k : ∀ σ H R, wi' σ H R → wi σ H R) : PI X tg e wi' := ⟨fun pins s σ H R I hw => h.run pins s σ H R I (k σ H R hw)⟩
/-- a dict's keys, the dict locked -/
theorem itD_keys {m : List (D × D)} {kvs : List (Key × V)} {a : Addr} {ob : Obj} (h : P1 a = some (.frz ob (.dK kvs))) (r : RepK K P1 kvs m) : ItD K (Itk a ob kvs) (m.map (·.1)) σ δ1 P1 H1 := fun i σ2 δ2 P2 H2 S2 s2 => by
  have q : H2 a = some (.frz ob (.dK kvs)) := S2.ph _ _ (s2.sub _ _ h)
  have hl := r.length
  have at_ : ∀ {kvs : List (Key × V)} {m : List (D × D)} {i : Nat} {k : D}, RepK K P1 kvs m → (m.map (·.1))[i]? = some k → ∃ j w, kvs[i]? = some (j, w) ∧ k = keyD j := by
    intro kvs
    induction kvs with
    | nil => intro m i k r h; cases r; simp at h
    | cons p kvs ih =>
      intro m i k r h
      cases r with
      | cons a t =>
        cases i with
        | zero => rw [List.map_cons, List.getElem?_cons_zero] at h; cases h; exact ⟨_, _, rfl, rfl⟩
        | succ i => rw [List.map_cons, List.getElem?_cons_succ] at h; rw [List.getElem?_cons_succ]; exact ih t h
  refine ⟨fun d hd => ?_, fun hle => ⟨q, by rw [List.length_map] at hle; omega⟩⟩
  obtain ⟨j, w, e1, e2⟩ := at_ r hd
  refine ⟨⟨q, (List.getElem?_eq_some_iff.mp e1).1⟩, fun y H3 ⟨e, k, v, e3, e4⟩ => ?_⟩
  rw [e1] at e3
  cases e3
  subst e e4 e2
  refine ⟨P2, Ext.refl S2.ph, ?_⟩
  cases j with
  | inl i => exact .int i
  | inr x => exact .str x
theorem keyFor_dT {xs : List Ent} {m : List (D × D)} (r : RepT K P1 xs m) (n : xs ≠ []) (h : keyFor m (.int 0) = true) : False := by
  cases r with
  | nil => exact n rfl
  | cons t a b => cases h
def iWalk (K : PySem.W.Frag) (tl : TE) : TI := fun σ H R => tl σ H fun x H1 => (∃ a b xs, x = .ref a ∧ SqB K H1 b a xs ∧ R (ItB K b a) H1) ∨ ∃ d o kvs, x = .ref d ∧ H1 d = some (.frz o (.dK kvs)) ∧ R (Itk d o kvs) H1
theorem pi_iWalk {tl : TE} (hl : PE X e tl) : PI X tg e (iWalk X.K tl) := by
  refine ⟨fun pins s σ H R I h => ?_⟩
  refine thn (hl.run pins s σ H _ I h) fun v s1 ⟨x, H1, I1, r1, q1⟩ => ?_
  rcases q1 with ⟨a, b, xs, e, hq, q⟩ | ⟨d, o, kvs, e, hd, q⟩
  · subst e
    cases r1
    cases b with
    | false =>
      obtain ⟨its, rv, p, hz⟩ := I1.list hq
      refine wpAny_pyIter_list p.isList ?_
      refine ⟨s1.heap.objs.size, [s1.heap.objs.size], _, _, H1, rfl, I1.kept (t' := s1.toks) fun b o e => Heap.get?_push_of_some _ e, turn_list a _, ⟨_, Heap.get?_push_size _ rfl, rfl, rfl⟩, fun b hb => ?_, q⟩
      have e : b = s1.heap.objs.size := by simpa using hb
      subst e
      exact I1.fpOk (Nat.le_refl _) (I1.hok.fresh (Nat.le_refl _))
    | true =>
      obtain ⟨its, rv, p, hz⟩ := I1.tuple hq
      refine wpAny_pyIter_tuple (show s1.heap.IsTuple a its.toArray from p) ?_
      refine ⟨s1.heap.objs.size, [s1.heap.objs.size], _, _, H1, rfl, I1.kept (t' := s1.toks) fun b o e => Heap.get?_push_of_some _ e, turn_tuple a _, ⟨_, Heap.get?_push_size _ rfl, rfl, rfl⟩, fun b hb => ?_, q⟩
      have e : b = s1.heap.objs.size := by simpa using hb
      subst e
      exact I1.fpOk (Nat.le_refl _) (I1.hok.fresh (Nat.le_refl _))
  · subst e
    cases r1
    obtain ⟨hs, hgd, hx, es, ep, vs, hdt, hsz, kv, hm⟩ := I1.frzK hd
    refine iter_keys hs hgd hx hdt ?_
    refine ⟨s1.heap.objs.size, [s1.heap.objs.size], _, _, H1, rfl, I1.kept (t' := s1.toks) fun b o e => Heap.get?_push_of_some _ e, turn_keys _ hdt, ⟨_, Heap.get?_push_size _ rfl, rfl, by rw [hsz]; rfl⟩, fun b hb => ?_, q⟩
    have e : b = s1.heap.objs.size := by simpa using hb
    subst e
    exact I1.fpOk (Nat.le_refl _) (I1.hok.fresh (Nat.le_refl _))
theorem pi_walk (he : PE X e (eD X.bas X.mg W f)) : PI X tg e (iD X.bas X.mg W (walkM f)) :=
  PI.mono (pi_iWalk (de_pers (W := W) he)) fun σ H R h => iD_bind h fun d δ1 v H1 P1 S1 ⟨H0, r1⟩ ds ed k => by
    have seq : seqO d = some ds → (∃ a b xs, v = V.ref a ∧ SqB X.bas.K H1 b a xs ∧ R (ItB X.bas.K b a) H1) := fun ed => by
      obtain ⟨b, a, vs, ev, hq, r⟩ := seqB_of r1 ed
      exact ⟨a, b, vs, ev, sqB_sub S1.ph hq, k _ (itD_B hq r)⟩
    cases d with
    | list xs => exact .inl (seq ed)
    | tuple xs => exact .inl (seq ed)
    | none => cases ed
    | bool _ => cases ed
    | int _ => cases ed
    | str _ => cases ed
    | dict m =>
      right
      change (if keyFor m (.int 0) = true then some (m.map (·.1)) else none) = some ds at ed
      by_cases c : keyFor m (.int 0) = true
      · rw [if_pos c] at ed
        cases ed
        cases r1 with
        | dK e r => exact ⟨_, _, _, rfl, S1.ph _ _ e, k _ (itD_keys e r)⟩
        | dT e n r => exact (keyFor_dT r n c).elim
      · rw [if_neg c] at ed; cases ed
/-! range -/
theorem small_of {i : Int} (h : small i = true) : -(2 ^ 62) ≤ i ∧ i < 2 ^ 62 := by
  unfold small at h
  rw [Bool.and_eq_true] at h
  have h1 := of_decide_eq_true h.1
  have h2 := of_decide_eq_true h.2
  exact ⟨by omega, by omega⟩
theorem itD_r {lo : Int} {n : Nat} : ItD K (Itr lo n) (upTo lo n) σ δ1 P1 H1 := fun i σ2 δ2 P2 H2 S2 s2 => by
  have hl : (upTo lo n).length = n := by simp [upTo]
  refine ⟨fun d hd => ?_, fun h => by show n ≤ i; omega⟩
  obtain ⟨hi, ed⟩ := List.getElem?_eq_some_iff.mp hd
  refine ⟨by show i < n; omega, fun x H3 ⟨e, ex⟩ => ?_⟩
  subst e ex
  refine ⟨P2, Ext.refl S2.ph, ?_⟩
  have : d = .int (lo + (i : Nat)) := by rw [← ed]; simp [upTo]
  rw [this]
  exact .int _
theorem itD_rc {lo : Int} {n : Nat} : ItD K (Itc lo (-1) n) ((List.range n).map fun k => .int (lo - (k : Nat))) σ δ1 P1 H1 := fun i σ2 δ2 P2 H2 S2 s2 => by
  have hl : ((List.range n).map fun k => (PyData.int (lo - (k : Nat)))).length = n := by simp
  refine ⟨fun d hd => ?_, fun h => by show n ≤ i; omega⟩
  obtain ⟨hi, ed⟩ := List.getElem?_eq_some_iff.mp hd
  refine ⟨by show i < n; omega, fun x H3 ⟨e, ex⟩ => ?_⟩
  subst e ex
  refine ⟨P2, Ext.refl S2.ph, ?_⟩
  have : d = .int (lo + (i : Nat) * (-1)) := by
    rw [← ed]; simp; omega
  rw [this]
  exact .int _
theorem repL_1 {vs : List V} {i : Int} (r : RepL K P vs [.int i]) : vs = [.int i] := by
  cases r with
  | cons a t => cases a; cases t; rfl
theorem range1_of {ds l : List D} (h : range1O l = some ds) : ∃ j, l = [.int j] ∧ small j = true ∧ ds = upTo 0 j.toNat := by
  unfold range1O at h
  split at h
  · split at h
    · cases h; exact ⟨_, rfl, by assumption, rfl⟩
    · cases h
  · cases h
theorem range2_of {ds l : List D} (h : range2O l = some ds) : ∃ i j, l = [.int i, .int j] ∧ small i = true ∧ small j = true ∧ ds = upTo i (j - i).toNat := by
  unfold range2O at h
  split at h
  · split at h
    · rename_i hc; rw [Bool.and_eq_true] at hc; cases h; exact ⟨_, _, rfl, hc.1, hc.2, rfl⟩
    · cases h
  · cases h
theorem range3_of {ds l : List D} (h : range3O l = some ds) : ∃ i j, l = [.int i, .int j, .int (-1)] ∧ small i = true ∧ small j = true ∧ ds = downTo i (i - j).toNat := by
  unfold range3O at h
  split at h
  · split at h
    · rename_i hc; rw [Bool.and_eq_true] at hc; cases h; exact ⟨_, _, rfl, hc.1, hc.2, rfl⟩
    · cases h
  · cases h
theorem pi_rangeM1 {p pos : Pos} (hg : Gl X "range") (hm : X.mg "range" = none) (ha : PA X [a] (aD X.bas X.mg W fs)) (hs : starEach [a] X.env = [(false, eval a X.env)]) : PI X tg (.Call (.Name "range" p) [a] [] pos) (iD X.bas X.mg W (mapM1 fs range1O)) :=
  PI.mono (pi_range1 hg hm ha hs) fun σ H R h => iD_bind h fun l δ1 vs H1 P1 S1 ⟨H0, r1⟩ ds ed k => by
    obtain ⟨j, rfl, hj, rfl⟩ := range1_of ed
    cases r1 with | cons a t => cases a; cases t; exact ⟨j, rfl, (small_of hj).1, (small_of hj).2, k _ itD_r⟩
theorem pi_rangeM2 {p pos : Pos} (hg : Gl X "range") (hm : X.mg "range" = none) (ha : PA X [a, b] (aD X.bas X.mg W fs)) (hs : starEach [a, b] X.env = [(false, eval a X.env), (false, eval b X.env)]) (hs2 : starEach [b] X.env = [(false, eval b X.env)]) : PI X tg (.Call (.Name "range" p) [a, b] [] pos) (iD X.bas X.mg W (mapM1 fs range2O)) :=
  PI.mono (pi_range2 hg hm ha hs hs2) fun σ H R h => iD_bind h fun l δ1 vs H1 P1 S1 ⟨H0, r1⟩ ds ed k => by
    obtain ⟨i, j, rfl, hi, hj, rfl⟩ := range2_of ed
    cases r1 with | cons a t => cases a; cases t with | cons a t => cases a; cases t; exact ⟨i, j, rfl, ⟨(small_of hi).1, (small_of hi).2, (small_of hj).1, (small_of hj).2⟩, k _ itD_r⟩
theorem pi_rangeM3 {p pos : Pos} (hg : Gl X "range") (hm : X.mg "range" = none) (ha : PA X [a, b, c] (aD X.bas X.mg W fs)) (hs : starEach [a, b, c] X.env = (false, eval a X.env) :: starEach [b, c] X.env) (hpl : (backTo pos (starEach [b, c] X.env)).any (·.1) = false) : PI X tg (.Call (.Name "range" p) [a, b, c] [] pos) (iD X.bas X.mg W (mapM1 fs range3O)) :=
  PI.mono (pi_range3 hg hm ha hs hpl) fun σ H R h => iD_bind h fun l δ1 vs H1 P1 S1 ⟨H0, r1⟩ ds ed k => by
    obtain ⟨i, j, rfl, hi, hj, rfl⟩ := range3_of ed
    cases r1 with | cons a t => cases a; cases t with | cons a t => cases a; cases t with | cons a t => cases a; cases t; exact ⟨i, j, -1, _, rfl, RgC.neg (small_of hi).1 (small_of hi).2 (small_of hj).1 (small_of hj).2, k _ itD_rc⟩
/-! enumerate, zip -/
theorem tup2 {P : Hp} {T : Addr} {x y : V} {d e : D} (hx : Rep K P x d) (hy : Rep K P y e) (n : P T = none) : Rep K (upd P T (.tup [x, y])) (.ref T) (.tuple [d, e]) :=
  .tup (.inl (.inl upd_same)) (.cons (hx.sub (Sub.upd n)) (.cons (hy.sub (Sub.upd n)) .nil))
theorem itD_e {ds : List D} {vs : List V} {b : Bool} {a : Addr} (h : SqB K.K P1 b a vs) (r : RepL K P1 vs ds) : ItD K (IteB K.K b a) (ds.zipIdx.map fun p => .tuple [.int p.2, p.1]) σ δ1 P1 H1 := fun i σ2 δ2 P2 H2 S2 s2 => by
  have q := sqB_sub (s2.sub.trans S2.ph) h
  refine ⟨fun d hd => ?_, fun hl => ⟨vs, q, by rw [r.length]; simp at hl; omega⟩⟩
  rw [List.getElem?_map, List.getElem?_zipIdx] at hd
  cases e0 : ds[i]? with
  | none => rw [e0] at hd; cases hd
  | some d0 =>
    rw [e0] at hd
    simp only [Option.map_some, Nat.zero_add, Option.some.injEq] at hd
    subst hd
    obtain ⟨x, hx, rx⟩ := r.get' e0
    refine ⟨⟨vs, x, q, hx⟩, fun y H3 ⟨T, x', ey, hT, eH, hy⟩ => ?_⟩
    have := hy vs q
    rw [hx] at this; cases this
    subst ey eH
    exact ⟨_, Ext.newP S2.ph hT, tup2 (.int _) (s2.rep rx) (Sub.none S2.ph hT)⟩
theorem itD_z {ds es : List D} {vs ws : List V} {b1 b2 : Bool} {a1 a2 : Addr} (h : SqB K.K P1 b1 a1 vs) (r : RepL K P1 vs ds) (h' : SqB K.K P1 b2 a2 ws) (r' : RepL K P1 ws es) : ItD K (ItzB K.K b1 b2 a1 a2) (List.zipWith (fun x y => .tuple [x, y]) ds es) σ δ1 P1 H1 := fun i σ2 δ2 P2 H2 S2 s2 => by
  have q := sqB_sub (s2.sub.trans S2.ph) h
  have q' := sqB_sub (s2.sub.trans S2.ph) h'
  refine ⟨fun d hd => ?_, fun hl => ?_⟩
  · rw [List.getElem?_zipWith] at hd
    cases e0 : ds[i]? with
    | none => rw [e0] at hd; cases hd
    | some d0 =>
      rw [e0] at hd
      cases e1 : es[i]? with
      | none => rw [e1] at hd; cases hd
      | some d1 =>
        rw [e1] at hd
        cases hd
        obtain ⟨x, hx, rx⟩ := r.get' e0
        obtain ⟨y, hy, ry⟩ := r'.get' e1
        refine ⟨⟨vs, ws, x, y, q, q', hx, hy⟩, fun v H3 ⟨T, x', y', ey, hT, eH, hx', hy'⟩ => ?_⟩
        have z1 := hx' vs q
        have z2 := hy' ws q'
        rw [hx] at z1; cases z1
        rw [hy] at z2; cases z2
        subst ey eH
        exact ⟨_, Ext.newP S2.ph hT, tup2 (s2.rep rx) (s2.rep ry) (Sub.none S2.ph hT)⟩
  · rw [List.length_zipWith] at hl
    have l1 := r.length
    have l2 := r'.length
    exact ⟨vs, ws, q, q', by omega, by omega, by omega⟩
theorem pi_enumM {p pos tpos : Pos} {elts : List Expr} {kk : Nat} (hg : Gl X "enumerate") (hm : X.mg "enumerate" = none) (ha : PA X [e] (aD X.bas X.mg W fs)) (hs : starEach [e] X.env = [(false, eval e X.env)]) :
    PI X (.Tuple elts kk tpos) (.Call (.Name "enumerate" p) [e] [] pos) (iD X.bas X.mg W (mapM1 fs enumO)) :=
  PI.mono (pi_enumB hg hm ha hs) fun σ H R h => iD_bind h fun l δ1 vs H1 P1 S1 ⟨H0, r1⟩ ds ed k => by
    unfold enumO at ed
    split at ed
    · rename_i d _
      cases eq : seqO d with
      | none => rw [eq] at ed; cases ed
      | some xs =>
        rw [eq] at ed; cases ed
        cases r1 with
        | cons r t =>
          cases t
          obtain ⟨b, a, vs, ev, hq, r2⟩ := seqB_of r eq
          subst ev
          exact ⟨b, a, vs, rfl, sqB_sub S1.ph hq, k _ (itD_e hq r2)⟩
    · cases ed
theorem pi_zipM {p pos tpos : Pos} {elts : List Expr} {kk : Nat} (hg : Gl X "zip") (hm : X.mg "zip" = none) (ha : PA X [e, e2] (aD X.bas X.mg W fs))
    (hs : starEach [e, e2] X.env = (false, eval e X.env) :: starEach [e2] X.env) (hpl : (backTo pos (starEach [e2] X.env)).any (·.1) = false) :
    PI X (.Tuple elts kk tpos) (.Call (.Name "zip" p) [e, e2] [] pos) (iD X.bas X.mg W (mapM1 fs zip2O)) :=
  PI.mono (pi_zipB hg hm ha hs hpl) fun σ H R h => iD_bind h fun l δ1 vs H1 P1 S1 ⟨H0, r1⟩ ds ed k => by
    unfold zip2O at ed
    split at ed
    · split at ed
      · rename_i e1 e2
        cases ed
        cases r1 with
        | cons r t =>
          cases t with
          | cons r' t =>
            cases t
            obtain ⟨b1, a1, vs1, ev1, hq1, r1⟩ := seqB_of r e1
            obtain ⟨b2, a2, vs2, ev2, hq2, r2⟩ := seqB_of r' e2
            subst ev1 ev2
            exact ⟨b1, b2, a1, a2, vs1, vs2, rfl, sqB_sub S1.ph hq1, sqB_sub S1.ph hq2, k _ (itD_z hq1 r1 hq2 r2)⟩
      · cases ed
    · cases ed
end
end DL

/-! # DL, part 11: list comprehensions. -/
namespace DL
open PySem PySem.Spec PyProof.Rows L2

/-- nothing of one's own in the slot -/
def blank (δ : DEnv) (i : Nat) : Bool := match δ[i]? with
  | some none => true
  | some (some (.pers, _)) => true
  | _ => false
def hide : List Nat → DEnv → DEnv
  | [], δ => δ
  | v :: vs, δ => (hide vs δ).set v none
def unhide (δ1 : DEnv) : List Nat → DEnv → DEnv
  | [], δ => δ
  | v :: vs, δ => (unhide δ1 vs δ).set v (δ1[v]?.getD none)
theorem hide_len : ∀ (vs : List Nat) (δ : DEnv), (hide vs δ).length = δ.length
  | [], _ => rfl
  | v :: vs, δ => by unfold hide; rw [List.length_set, hide_len vs δ]
theorem unhide_len {δ1 : DEnv} : ∀ (vs : List Nat) (δ : DEnv), (unhide δ1 vs δ).length = δ.length
  | [], _ => rfl
  | v :: vs, δ => by unfold unhide; rw [List.length_set, unhide_len vs δ]
theorem hide_out {j : Nat} : ∀ {vs : List Nat} {δ : DEnv}, j ∉ vs → (hide vs δ)[j]? = δ[j]?
  | [], _, _ => rfl
  | v :: vs, δ, h => by
    unfold hide
    rw [List.getElem?_set_ne (fun z : v = j => h (z ▸ List.mem_cons_self))]
    exact hide_out fun z => h (List.mem_cons_of_mem _ z)
theorem hide_at {j : Nat} {k : Kd} {d : D} : ∀ {vs : List Nat} {δ : DEnv}, At (hide vs δ) j k d → j ∉ vs
  | [], _, _ => by simp
  | v :: vs, δ, h => fun m => by
    unfold hide at h
    rcases at_none h with ⟨ne, h⟩
    rcases List.mem_cons.mp m with z | z
    · exact ne z
    · exact hide_at h z
theorem unhide_out {δ1 : DEnv} {j : Nat} : ∀ {vs : List Nat} {δ : DEnv}, j ∉ vs → (unhide δ1 vs δ)[j]? = δ[j]?
  | [], _, _ => rfl
  | v :: vs, δ, h => by
    unfold unhide
    rw [List.getElem?_set_ne (fun z : v = j => h (z ▸ List.mem_cons_self))]
    exact unhide_out fun z => h (List.mem_cons_of_mem _ z)
theorem unhide_in {δ1 : DEnv} {j : Nat} : ∀ {vs : List Nat} {δ : DEnv}, j ∈ vs → j < δ.length → (unhide δ1 vs δ)[j]? = some (δ1[j]?.getD none)
  | v :: vs, δ, h, hl => by
    unfold unhide
    by_cases e : v = j
    · subst e; rw [List.getElem?_set_self (by rw [unhide_len]; exact hl)]
    · rw [List.getElem?_set_ne e]
      rcases List.mem_cons.mp h with z | z
      · exact absurd z.symm e
      · exact unhide_in z hl
theorem wipe_out {σ : Sg} {j : Nat} : ∀ {vs : List Nat}, j ∉ vs → (wipe σ vs)[j]? = σ[j]?
  | [], _ => rfl
  | v :: vs, h => by
    unfold wipe
    rw [List.getElem?_set_ne (fun z : v = j => h (z ▸ List.mem_cons_self))]
    exact wipe_out fun z => h (List.mem_cons_of_mem _ z)
theorem wipe_in {σ : Sg} {j : Nat} : ∀ {vs : List Nat}, j ∈ vs → j < σ.length → (wipe σ vs)[j]? = some none
  | v :: vs, h, hl => by
    unfold wipe
    by_cases e : v = j
    · subst e; rw [List.getElem?_set_self (by rw [wipe_length]; exact hl)]
    · rw [List.getElem?_set_ne e]
      rcases List.mem_cons.mp h with z | z
      · exact absurd z.symm e
      · exact wipe_in z hl
theorem wipe_same {σ σ' : Sg} {vs : List Nat} (hl : σ'.length = σ.length) (h : ∀ j, j ∉ vs → σ'[j]? = (wipe σ vs)[j]?) : wipe σ' vs = wipe σ vs := by
  refine List.ext_getElem? fun j => ?_
  by_cases m : j ∈ vs
  · by_cases l : j < σ.length
    · rw [wipe_in m (by rw [hl]; exact l), wipe_in m l]
    · rw [List.getElem?_eq_none (by rw [wipe_length, hl]; omega), List.getElem?_eq_none (by rw [wipe_length]; omega)]
  · rw [wipe_out m, h j m]
section
variable {K : Bas} {P H P1 H1 P2 H2 : Hp} {σ σ1 σ2 : Sg} {δ δ1 δ2 : DEnv} {vs : List Nat}
theorem SR.hide (S : SR K P H σ δ) : SR K P H (wipe σ vs) (hide vs δ) := by
  have up : ∀ {j k d}, At (DL.hide vs δ) j k d → At δ j k d ∧ (wipe σ vs)[j]? = σ[j]? := fun {j k d} h => by
    have m := hide_at h
    exact ⟨by unfold At; rw [← hide_out m]; exact h, wipe_out m⟩
  refine ⟨by rw [wipe_length, hide_len]; exact S.len, S.ph, fun i k d h => ?_, fun i j k l d e a h1 h2 n1 n2 q1 q2 => ?_⟩
  · obtain ⟨h, e⟩ := up h
    rw [e]; exact S.sl i k d h
  · obtain ⟨h1, e1⟩ := up h1
    obtain ⟨h2, e2⟩ := up h2
    rw [e1] at q1; rw [e2] at q2
    exact S.inj i j k l d e a h1 h2 n1 n2 q1 q2
theorem blank_at {j : Nat} {k : Kd} {d : D} (hb : (vs.all (blank δ)) = true) (m : j ∈ vs) (h : At δ j k d) : k = .pers := by
  have := List.all_eq_true.mp hb j m
  unfold blank at this
  rw [show δ[j]? = some (some (k, d)) from h] at this
  cases k with
  | pers => rfl
  | own => cases this
  | bor => cases this
  | lck => cases this
/-- back from a block -/
theorem SR.unhide (S : SR K P H σ δ) (hb : (vs.all (blank δ)) = true) (s : Stp (wipe σ vs) (DL.hide vs δ) P H σ2 δ2 P2 H2) (S2 : SR K P2 H2 σ2 δ2) (hw : wipe σ2 vs = wipe σ vs) :
    SR K P2 H2 σ (unhide δ vs δ2) ∧ Stp σ δ P H σ (unhide δ vs δ2) P2 H2 := by
  have hl : σ2.length = σ.length := by have := congrArg List.length hw; rwa [wipe_length, wipe_length] at this
  have out : ∀ {j}, j ∉ vs → σ2[j]? = σ[j]? := fun {j} m => by rw [← wipe_out (vs := vs) m, hw, wipe_out m]
  have up : ∀ {j k d}, At (DL.unhide δ vs δ2) j k d → (j ∈ vs ∧ k = .pers ∧ At δ j k d) ∨ (j ∉ vs ∧ At δ2 j k d ∧ σ2[j]? = σ[j]?) := fun {j k d} h => by
    by_cases m : j ∈ vs
    · by_cases l : j < δ2.length
      · unfold At at h
        rw [unhide_in m l] at h
        have h' : At δ j k d := by
          unfold At
          cases e : δ[j]? with
          | none => rw [e] at h; cases h
          | some o => rw [e] at h; exact h
        exact .inl ⟨m, blank_at hb m h', h'⟩
      · unfold At at h
        rw [List.getElem?_eq_none (by rw [unhide_len]; omega)] at h; cases h
    · exact .inr ⟨m, by unfold At at h ⊢; rw [unhide_out m] at h; exact h, out m⟩
  refine ⟨⟨by rw [unhide_len, ← S2.len, hl], S2.ph, fun j k d h => ?_, fun i j k l d e a h1 h2 n1 n2 q1 q2 => ?_⟩, ⟨fun b o e n m => ?_, fun b o e n m => ?_, s.live, s.sub, fun b ⟨j, d, h, q⟩ => ?_, fun i d h => ?_, fun i d h => ?_⟩⟩
  · rcases up h with ⟨m, rfl, h⟩ | ⟨m, h, e⟩
    · obtain ⟨v, ev, sl⟩ := S.sl j .pers d h
      exact ⟨v, ev, Rep.sub s.sub sl⟩
    · rw [← e]; exact S2.sl j k d h
  · rcases up h1 with ⟨_, z, _⟩ | ⟨_, h1, e1⟩
    · exact absurd z n1
    · rcases up h2 with ⟨_, z, _⟩ | ⟨_, h2, e2⟩
      · exact absurd z n2
      · rw [← e1] at q1; rw [← e2] at q2
        exact S2.inj i j k l d e a h1 h2 n1 n2 q1 q2
  · refine s.keep b o e (fun ⟨j, d, h, q⟩ => n ⟨j, d, ?_, ?_⟩) (fun ⟨j, d, h, q⟩ => m ⟨j, d, ?_, ?_⟩)
    · unfold At; rw [← hide_out (hide_at h)]; exact h
    · rw [← wipe_out (hide_at h)]; exact q
    · unfold At; rw [← hide_out (hide_at h)]; exact h
    · rw [← wipe_out (hide_at h)]; exact q
  · refine s.pkeep b o e (fun ⟨j, d, h, q⟩ => n ⟨j, d, ?_, ?_⟩) (fun ⟨j, d, h, q⟩ => m ⟨j, d, ?_, ?_⟩)
    · unfold At; rw [← hide_out (hide_at h)]; exact h
    · rw [← wipe_out (hide_at h)]; exact q
    · unfold At; rw [← hide_out (hide_at h)]; exact h
    · rw [← wipe_out (hide_at h)]; exact q
  · rcases up h with ⟨_, z, _⟩ | ⟨m, h, e⟩
    · cases z
    · rcases s.own b ⟨j, d, h, by rw [e]; exact q⟩ with ⟨j', d', h', q'⟩ | z
      · exact .inl ⟨j', d', by unfold At; rw [← hide_out (hide_at h')]; exact h', by rw [← wipe_out (hide_at h')]; exact q'⟩
      · exact .inr z
  · have m : i ∉ vs := fun m => by cases blank_at hb m h
    obtain ⟨⟨d', h'⟩, _⟩ := s.bor i d (by unfold At; rw [hide_out m]; exact h)
    exact ⟨⟨d', by unfold At; rw [unhide_out m]; exact h'⟩, rfl⟩
  · rcases up h with ⟨_, z, _⟩ | ⟨m, h, e⟩
    · cases z
    · obtain ⟨d', h'⟩ := s.borB i d h
      exact ⟨d', by unfold At; rw [← hide_out m]; exact h'⟩
/-- an object that no slot holds is written -/
theorem SR.aside {D : Addr} {o : HO} (S : SR K P H σ δ) (p : P D = none) (n1 : ∀ k, k ≠ .pers → ¬ Adr σ δ k D) : SR K P (upd H D o) σ δ := by
  refine ⟨S.len, fun b u e => ?_, fun i k d h => ?_, S.inj⟩
  · have hb : b ≠ D := fun z => by subst z; rw [p] at e; cases e
    rw [upd_ne hb]; exact S.ph b u e
  · obtain ⟨v, ev, sl⟩ := S.sl i k d h
    refine ⟨v, ev, ?_⟩
    cases k with
    | pers => exact sl
    | own => obtain ⟨a, rfl, na, oa⟩ := sl; exact ⟨a, rfl, na, oa.step (Sub.refl _) fun o e => by rw [upd_ne (fun z : a = D => n1 .own (by decide) ⟨i, d, h, by rw [← z]; exact ev⟩)]; exact e⟩
    | bor => obtain ⟨a, rfl, na, oa⟩ := sl; exact ⟨a, rfl, na, oa.step (Sub.refl _) fun o e => by rw [upd_ne (fun z : a = D => n1 .bor (by decide) ⟨i, d, h, by rw [← z]; exact ev⟩)]; exact e⟩
    | lck => obtain ⟨a, rfl, na, oa⟩ := sl; exact ⟨a, rfl, na, oa.step (Sub.refl _) fun o e => by rw [upd_ne (fun z : a = D => n1 .lck (by decide) ⟨i, d, h, by rw [← z]; exact ev⟩)]; exact e⟩
theorem Stp.aside {D : Addr} {o : HO} (s : Stp σ δ P H σ1 δ1 P1 H1) (n : H D = none) : Stp σ δ P H σ1 δ1 P1 (upd H1 D o) :=
  ⟨fun b u e a c => by rw [upd_ne (ne_of_none e n)]; exact s.keep b u e a c, s.pkeep, fun b u e => by rw [upd_ne (ne_of_none e n)]; exact s.live b u e, s.sub, s.own, s.bor, s.borB⟩
end
/-! ### the loop -/
def lcLoop (g : TgM) (t : M Bool) (e : M D) (vs : List Nat) : List D → DEnv → Res (List D)
  | [], δ => .ok [] δ
  | d :: ds, δ => match g d (hide vs δ) with
    | none => .bad
    | some δ1 => match t δ1 with
      | .ok b δ2 => if b = true then (match e δ2 with
        | .ok y δ3 => (match lcLoop g t e vs ds (unhide δ vs δ3) with
          | .ok ys δ4 => .ok (y :: ys) δ4
          | _ => .bad)
        | _ => .bad) else lcLoop g t e vs ds (unhide δ vs δ2)
      | _ => .bad
/-- the slots of the block are blank, and stay so -/
def lcM (fi : M (List D)) (g : TgM) (t : M Bool) (e : M D) (vs : List Nat) : M R := bindM fi fun ds δ =>
  if (vs.all (blank δ) && decide (ds.length ≤ line)) = true then (match lcLoop g t e vs ds δ with
    | .ok ys δ' => .ok (.new (.list ys)) δ'
    | _ => .bad) else .bad
def noX : WX := fun _ _ _ _ => False
theorem all_unhide {δ1 δ : DEnv} {vs : List Nat} (h : (vs.all (blank δ1)) = true) (hl : δ1.length = δ.length) : (vs.all (blank (unhide δ1 vs δ))) = true := by
  refine List.all_eq_true.mpr fun j hj => ?_
  have q := List.all_eq_true.mp h j hj
  unfold blank at q ⊢
  cases e : δ1[j]? with
  | none => rw [e] at q; cases q
  | some o =>
    have lt : j < δ.length := by rw [← hl]; exact (List.getElem?_eq_some_iff.mp e).1
    rw [unhide_in hj lt, e]
    rw [e] at q
    exact q
theorem tLc_of {K : Bas} {mg : Str → Option Value} {W : WX} {fi : M (List D)} {g : TgM} {t : M Bool} {e : M D} {vs : List Nat} {σ : Sg} {H : Hp} {Q : VK} (h : eD K mg W (lcM fi g t e vs) σ H Q) :
    tLc (iD K mg W fi) (gDt K vs g) (bD K mg noX t) (pD K mg noX e) vs σ H Q := by
  obtain ⟨P, δ, S, h⟩ := h
  refine ⟨P, δ, S, ?_⟩
  unfold lcM bindM at h
  cases ef : fi δ with
  | bad => rw [ef] at h; exact h.elim
  | ex x δ1 => rw [ef] at h; exact h
  | ok ds δ1 =>
    rw [ef] at h
    intro J H1 P1 S1 s1 hJ D nD
    change gK K mg W (rE K) (if (vs.all (blank δ1) && decide (ds.length ≤ line)) = true then _ else _) σ δ P H Q at h
    by_cases hc : (vs.all (blank δ1) && decide (ds.length ≤ line)) = true
    · rw [if_pos hc] at h
      rw [Bool.and_eq_true] at hc
      obtain ⟨hb1, hlen⟩ := hc
      have hlen := of_decide_eq_true hlen
      cases el : lcLoop g t e vs ds δ1 with
      | bad => rw [el] at h; exact h.elim
      | ex x δ2 => rw [el] at h; exact h.elim
      | ok ys δe =>
        rw [el] at h
        -- the state ahead of turn i
        let St : Nat → Hp → Prop := fun i H2 => ∃ P2 δ2 vsD done rest, SR K P2 H2 σ δ2 ∧ Stp σ δ1 P1 H1 σ δ2 P2 H2 ∧ (vs.all (blank δ2)) = true ∧ H2 D = some (.lst vsD) ∧ P2 D = none ∧ (∀ k, k ≠ Kd.pers → ¬ Adr σ δ2 k D) ∧ RepL K P2 vsD done ∧
          vsD.length ≤ i ∧ lcLoop g t e vs (ds.drop i) δ2 = .ok rest δe ∧ done ++ rest = ys
        have nA : ∀ k, k ≠ Kd.pers → ¬ Adr σ δ1 k D := fun k hk z => S1.fresh nD hk z
        have x0 : Ext P1 H1 P1 (upd H1 D (.lst [])) := Ext.newO S1.ph nD
        refine ⟨fun i m H2 => m = ds.length - i ∧ i ≤ ds.length ∧ St i H2, ⟨ds.length, by simp, Nat.zero_le _, P1, δ1, [], [], ys, S1.ext x0, x0.stp, hb1, upd_same, S1.ph.none nD, nA, .nil, Nat.le_refl _, el, rfl⟩, ?_⟩
        rintro i m H2 ⟨rfl, hi, P2, δ2, vsD, done, rest, S2, s2, hb, hD, pD, nA2, rD, lD, eL, eY⟩
        obtain ⟨hgo, hstop⟩ := hJ i σ δ2 P2 H2 S2 s2
        by_cases hlt : i < ds.length
        · have hd : ds[i]? = some ds[i] := List.getElem?_eq_getElem hlt
          obtain ⟨go, yld⟩ := hgo _ hd
          refine .inr ⟨go, St (i + 1), fun H' q => ⟨ds.length - (i + 1), by omega, rfl, hlt, q⟩, fun x H3 y => ?_⟩
          obtain ⟨P3, x3, r3⟩ := yld x H3 y
          have S3 := S2.ext x3
          have s23 : Stp σ δ2 P2 H2 σ δ2 P3 H3 := x3.stp
          have nA3 : ∀ k, k ≠ Kd.pers → ¬ Adr σ δ2 k D := nA2
          have hD3 : H3 D = some (.lst vsD) := x3.keep D _ hD
          have pD3 : P3 D = none := by rw [x3.pkeep D _ hD]; exact pD
          rw [List.drop_eq_getElem_cons hlt] at eL
          unfold lcLoop at eL
          refine ⟨P3, hide vs δ2, ds[i], S3.hide, r3, ?_⟩
          cases eg : g ds[i] (hide vs δ2) with
          | none => rw [eg] at eL; cases eL
          | some δ4 =>
            rw [eg] at eL
            dsimp only at eL ⊢
            intro σ4 H4 P4 S4 s4 fr
            have hw : wipe σ4 vs = wipe σ vs := wipe_same (fr.1.trans (wipe_length _ _)) fr.2
            have nAh : ∀ k, k ≠ Kd.pers → ¬ Adr (wipe σ vs) (hide vs δ2) k D := fun k hk ⟨j, d, h, q⟩ => nA2 k hk ⟨j, d, by unfold At; rw [← hide_out (hide_at h)]; exact h, by rw [← wipe_out (hide_at h)]; exact q⟩
            have lenOf : ∀ {δ5 : DEnv} {P5 H5 : Hp}, SR K P5 H5 σ4 δ5 → δ2.length = δ5.length := fun S5 => by rw [← S2.len, ← S5.len, fr.1, wipe_length]
            -- what is known of the new list at any later state of the block
            have keep : ∀ {δ5 : DEnv} {P5 H5 : Hp}, Stp (wipe σ vs) (hide vs δ2) P3 H3 σ4 δ5 P5 H5 → H5 D = some (.lst vsD) ∧ P5 D = none := fun s5 =>
              ⟨s5.keep D _ hD3 (nAh .own (by decide)) (nAh .bor (by decide)), by rw [s5.pkeep D _ hD3 (nAh .own (by decide)) (nAh .bor (by decide))]; exact pD3⟩
            have nAu : ∀ {δ5 : DEnv} {P5 H5 : Hp}, SR K P5 H5 σ4 δ5 → H5 D = some (.lst vsD) → SR K P5 H5 σ (unhide δ2 vs δ5) → Stp σ δ2 P3 H3 σ (unhide δ2 vs δ5) P5 H5 → ∀ k, k ≠ Kd.pers → ¬ Adr σ (unhide δ2 vs δ5) k D := fun {δ5 P5 H5} _ hD5 S6 s6 k hk z => by
              cases k with
              | pers => exact hk rfl
              | own =>
                rcases s6.own D z with z | z
                · exact nA2 .own (by decide) z
                · rw [hD3] at z; cases z
              | bor =>
                obtain ⟨j, d, h, q⟩ := z
                obtain ⟨d', h'⟩ := s6.borB j d h
                exact nA2 .bor (by decide) ⟨j, d', h', q⟩
              | lck =>
                obtain ⟨j, d, h, q⟩ := z
                obtain ⟨v, ev, a, rfl, na, oa⟩ := S6.sl j .lck d h
                rw [q] at ev; cases ev
                cases oa with
                | dK e _ => rw [hD5] at e; cases e
                | dT e _ _ => rw [hD5] at e; cases e
            refine ⟨hw, P4, δ4, S4, ?_⟩
            cases et : t δ4 with
            | bad => rw [et] at eL; cases eL
            | ex x δ5 => rw [et] at eL; cases eL
            | ok b δ5 =>
              rw [et] at eL
              dsimp only at eL
              intro b' H5 P5 S5 s5 rb
              cases rb
              have s45 := s4.trans s5
              by_cases hbv : b = true
              · rw [if_pos hbv] at eL ⊢
                refine ⟨P5, δ5, S5, ?_⟩
                cases ee : e δ5 with
                | bad => rw [ee] at eL; cases eL
                | ex x δ6 => rw [ee] at eL; cases eL
                | ok yd δ6 =>
                  rw [ee] at eL
                  dsimp only at eL
                  intro yv H6 P6 S6 s6 ry
                  have s46 := s45.trans s6
                  obtain ⟨hD6, pD6⟩ := keep s46
                  obtain ⟨S7, s7⟩ := S3.unhide hb s46 S6 hw
                  have nA7 := nAu S6 hD6 S7 s7
                  refine ⟨vsD, hD6, ?_, ?_⟩
                  · rw [← line_eq]; omega
                  · cases er : lcLoop g t e vs (ds.drop (i + 1)) (unhide δ2 vs δ6) with
                    | bad => rw [er] at eL; cases eL
                    | ex x δ7 => rw [er] at eL; cases eL
                    | ok rest' δ7 =>
                      rw [er] at eL
                      cases eL
                      have nA8 : ∀ k, k ≠ Kd.pers → ¬ Adr σ (unhide δ2 vs δ6) k D := nA7
                      refine ⟨P6, _, vsD ++ [yv], done ++ [yd], rest', S7.aside pD6 nA8, (s2.trans (s23.trans s7)).aside nD, all_unhide hb (lenOf S6), upd_same, pD6, nA8, (rD.sub (s23.sub.trans s7.sub)).append (.cons ry .nil), by rw [List.length_append]; show vsD.length + 1 ≤ i + 1; omega, er, by rw [List.append_assoc]; exact eY⟩
              · rw [if_neg hbv] at eL ⊢
                obtain ⟨hD5, pD5⟩ := keep s45
                obtain ⟨S7, s7⟩ := S3.unhide hb s45 S5 hw
                exact ⟨P5, _, vsD, done, rest, S7, s2.trans (s23.trans s7), all_unhide hb (lenOf S5), hD5, pD5, nAu S5 hD5 S7 s7, rD.sub (s23.sub.trans s7.sub), by omega, eL, eY⟩
        · left
          have ei : i = ds.length := by omega
          subst ei
          refine ⟨hstop rfl, ?_⟩
          rw [List.drop_length] at eL
          cases eL
          rw [List.append_nil] at eY
          subst eY
          exact h (.ref D) H2 P2 S2 (s1.trans s2) ⟨D, rfl, live_back s1 nD, pD, fun z => nA2 .own (by decide) z, fun z => nA2 .bor (by decide) z, .lst hD rD⟩
    · rw [if_neg hc] at h; exact h.elim
section
variable {X : Cx} {W : WX} {elt tg iter c : Expr} {fi : M (List D)} {g : TgM} {t : M Bool} {fe : M R} {ifs : List Expr} {scope : Scope} {own : List (Str × Nat)} {pos : Pos}
theorem PTs.mono {t t' : TT} (h : PTs X ifs t) (k : ∀ σ H Q, t' σ H Q → t σ H Q) : PTs X ifs t' := ⟨fun pins s σ H Q I hw => h.run pins s σ H Q I (k σ H Q hw)⟩
def yesM : M Bool := pureM true
theorem dts_nil {K : Bas} {mg : Str → Option Value} : PTs X [] (bD K mg W yesM) := PTs.mono pts_nil fun σ H Q ⟨P, δ, S, h⟩ => h true H P S (Stp.refl _ _ _ _) rfl
theorem dts_one {K : Bas} {mg : Str → Option Value} (h : PT X c (bD K mg W t)) : PTs X [c] (bD K mg W t) := pts_one h
/-- a comprehension's block -/
abbrev Blk (X : Cx) (scope : Scope) (X' : Cx) : Prop := ∃ (s : Shared) (H : Hp) (C : Addr) (cl : List (Str × Addr)) (fp : List Addr), X' = X.blk s H scope (compEnvC scope cl C X.env) fp
theorem de_lc (hc : X.calm = true) (hN : X.N.Nodup) (hi : PI X tg iter (iD X.bas X.mg W fi)) (ok : BlkOk X.N X.env.scope scope own)
    (hg : ∀ X', Blk X scope X' → PG X' tg (gDt X.bas (own.map (·.2)) g)) (ht : ∀ X', Blk X scope X' → PTs X' ifs (bD X.bas X.mg noX t)) (he : ∀ X', Blk X scope X' → PE X' elt (pD X.bas X.mg noX (persM fe))) (hs : ∀ x, foldedSetIterable iter X.env x = pure x) :
    PE X (.ListComp elt [⟨tg, iter, ifs, 0⟩] scope pos) (eD X.bas X.mg W (lcM fi g t (persM fe) (own.map (·.2)))) :=
  PE.mono (pe_lc hc hN hi ok (fun s H C cl fp => hg _ ⟨s, H, C, cl, fp, rfl⟩) (fun s H C cl fp => ht _ ⟨s, H, C, cl, fp, rfl⟩) (fun s H C cl fp => he _ ⟨s, H, C, cl, fp, rfl⟩) hs) fun σ H Q h => tLc_of h
theorem lcM_mv {t : M Bool} {e : M D} {vs : List Nat} : mvM (lcM fi g t e vs) = lcM fi g t e vs := by
  funext δ
  unfold mvM lcM bindM
  cases fi δ with
  | bad => rfl
  | ex x δ1 => rfl
  | ok ds δ1 =>
    dsimp only
    by_cases hc : (vs.all (blank δ1) && decide (ds.length ≤ line)) = true
    · rw [if_pos hc]
      cases lcLoop g t e vs ds δ1 <;> rfl
    · rw [if_neg hc]
/-- name = [..] on one line -/
theorem ds_setLc {i : Nat} {y : Str} {py spos : Pos} (hc : X.calm = true) (hN : X.N.Nodup) (hy : X.N[i]? = some y) (hyl : X.env.scope.names.lookup y = some .local) (hsw : swapsWith (.ListComp elt [⟨tg, iter, ifs, 0⟩] scope pos) (some (.Name y py)) spos.line X.env = pure true)
    (hi : PI X tg iter (iD X.bas X.mg W fi)) (ok : BlkOk X.N X.env.scope scope own)
    (hg : ∀ X', Blk X scope X' → PG X' tg (gDt X.bas (own.map (·.2)) g)) (ht : ∀ X', Blk X scope X' → PTs X' ifs (bD X.bas X.mg noX t)) (he : ∀ X', Blk X scope X' → PE X' elt (pD X.bas X.mg noX (persM fe))) (hs : ∀ x, foldedSetIterable iter X.env x = pure x) :
    PS X (.Assign [.Name y py] (.ListComp elt [⟨tg, iter, ifs, 0⟩] scope pos) spos) (sD X.bas X.mg W (setS i (lcM fi g t (persM fe) (own.map (·.2))))) :=
  PS.mono (ps_setLc hc hN hy hyl hsw hi ok (fun s H C cl fp => hg _ ⟨s, H, C, cl, fp, rfl⟩) (fun s H C cl fp => ht _ ⟨s, H, C, cl, fp, rfl⟩) (fun s H C cl fp => he _ ⟨s, H, C, cl, fp, rfl⟩) hs) fun D σ H h => by
    refine tLc_of ?_
    rw [← lcM_mv]
    exact ofRes_gD h fun r δ1 v H1 P1 δ P S S1 s1 r1 q => put_ok S1 s1 r1 q
end
end DL

/-! # DL, part 12: defs by data, and their calls. -/
namespace DL
open PySem PySem.Spec PyProof.Rows L2

/-- what a def does, by data: its result (new or not), and what its first parameter holds behind it, where that one is borrowed -/
inductive FRes where
  | ok (fr : Bool) (d : D) (b : D)
  | ex (x : Exc) (b : D)
  | bad
abbrev FSem := List D → FRes
/-- nothing but new objects, and what is at ex -/
structure ExtX (ex : Option Addr) (P H P' H' : Hp) : Prop where
  keep : ∀ b o, H b = some o → ex ≠ some b → H' b = some o
  pkeep : ∀ b o, H b = some o → ex ≠ some b → P' b = P b
  live : ∀ b o, H b = some o → ∃ o', H' b = some o'
  sub : Sub P P'
  ph : Sub P' H'
def bAdr : Bool → List V → Option Addr
  | true, .ref a :: _ => some a
  | _, _ => none
def ArgR (K : Bas) (P H : Hp) : Bool → List V → List D → Prop
  | false, vs, ds => RepL K P vs ds
  | true, vs, ds => ∃ a ws c es, vs = .ref a :: ws ∧ ds = c :: es ∧ P a = none ∧ OwnR K P H a c ∧ RepL K P ws es
def BorR (K : Bas) (P' H' : Hp) (ex : Option Addr) (b : D) : Prop := ∀ a, ex = some a → P' a = none ∧ OwnR K P' H' a b
def RetX (K : Bas) (H P' H' : Hp) (v : V) (fr : Bool) (d : D) : Prop := if fr = true then ∃ a, v = .ref a ∧ H a = none ∧ P' a = none ∧ OwnR K P' H' a d else Rep K P' v d
/-- the promise of a def -/
def spD (K : Bas) (mg : Str → Option Value) (bor : Bool) (g : FSem) : Sp := fun vs H Q E => ∃ P ds, Sub P H ∧ ArgR K P H bor vs ds ∧ match g ds with
  | .ok fr d b => ∀ v H' P', ExtX (bAdr bor vs) P H P' H' → BorR K P' H' (bAdr bor vs) b → RetX K H P' H' v fr d → Q v H'
  | .ex x b => ∀ cls dd H' P', ExtX (bAdr bor vs) P H P' H' → BorR K P' H' (bAdr bor vs) b → ExR K mg P' H' cls dd x → E cls dd H'
  | .bad => False
def persE (d : D) : Option (Kd × D) := some (.pers, d)
def env0 (n : Nat) : Bool → List D → DEnv
  | true, c :: es => some (Kd.bor, c) :: (es.map persE ++ List.replicate (n - es.length - 1) none)
  | _, ds => ds.map persE ++ List.replicate (n - ds.length) none
def borC (bor : Bool) (δ : DEnv) : D := if bor = true then (match δ[(0 : Nat)]? with
  | some (some (Kd.bor, c)) => c
  | _ => .none) else .none
/-- a def of np parameters, its body t over n slots -/
def runF (n np : Nat) (bor : Bool) (t : SM) : FSem := fun ds => if ds.length = np then (match t (env0 n bor ds) with
  | .nx δ => .ok false .none (borC bor δ)
  | .rt fr d δ => .ok fr d (borC bor δ)
  | .ex x δ => .ex x (borC bor δ)
  | _ => .bad) else .bad
section
variable {K : Bas} {P H : Hp}
theorem at_map {ds : List D} {m i : Nat} {k : Kd} {d : D} (h : At (ds.map persE ++ List.replicate m none) i k d) : k = .pers ∧ ds[i]? = some d := by
  unfold At at h
  by_cases hi : i < ds.length
  · rw [List.getElem?_append_left (by rw [List.length_map]; exact hi), List.getElem?_map] at h
    cases e : ds[i]? with
    | none => rw [e] at h; cases h
    | some d' => rw [e] at h; cases h; exact ⟨rfl, rfl⟩
  · rw [List.getElem?_append_right (by rw [List.length_map]; omega)] at h
    rcases Nat.lt_or_ge (i - (ds.map persE).length) m with l | l
    · rw [List.getElem?_replicate, if_pos l] at h; cases h
    · rw [List.getElem?_replicate, if_neg (by omega)] at h; cases h
theorem key0 {n j : Nat} {c : D} {es : List D} {k : Kd} {d : D} (h : At (env0 n true (c :: es)) (j + 1) k d) : At (es.map persE ++ List.replicate (n - es.length - 1) none) j k d := by
  unfold At env0 at h
  rw [List.getElem?_cons_succ] at h
  exact h
theorem argR_len {bor : Bool} {vs : List V} {ds : List D} (h : ArgR K P H bor vs ds) : vs.length = ds.length := by
  cases bor with
  | false => exact RepL.length h
  | true => obtain ⟨a, ws, c, es, rfl, rfl, _, _, r⟩ := h; rw [List.length_cons, List.length_cons, r.length]
theorem start_get {N : List Str} {vs : List V} {i : Nat} {v : V} (h : vs[i]? = some v) : (L2.start N vs)[i]? = some (some v) := by
  unfold L2.start
  rw [List.getElem?_append_left (by rw [List.length_map]; exact (List.getElem?_eq_some_iff.mp h).1), List.getElem?_map, h]; rfl
theorem start_len {N : List Str} {vs : List V} (h : vs.length ≤ N.length) : (L2.start N vs).length = N.length := by
  unfold L2.start; rw [List.length_append, List.length_map, List.length_replicate]; omega
/-- a def's body at its entry -/
theorem SR.start {N : List Str} {bor : Bool} {vs : List V} {ds : List D} (sb : Sub P H) (h : ArgR K P H bor vs ds) (hl : ds.length ≤ N.length) : SR K P H (L2.start N vs) (env0 N.length bor ds) := by
  have hvl := argR_len h
  cases bor with
  | false =>
    refine ⟨by rw [start_len (by omega)]; unfold env0; rw [List.length_append, List.length_map, List.length_replicate]; omega, sb, fun i k d e => ?_, fun i j k l d e a h1 h2 n1 n2 _ _ => ?_⟩
    · obtain ⟨rfl, e2⟩ := at_map (show At (ds.map persE ++ _) i k d from e)
      obtain ⟨v, ev, r⟩ := RepL.get' h e2
      exact ⟨v, start_get ev, r⟩
    · exact absurd (at_map (show At (ds.map persE ++ _) i k d from h1)).1 n1
  | true =>
    obtain ⟨a, ws, c, es, rfl, rfl, pa, oa, r⟩ := h
    have key : ∀ {i k d}, At (env0 N.length true (c :: es)) i k d → (i = 0 ∧ k = .bor ∧ d = c) ∨ ∃ j, i = j + 1 ∧ k = .pers ∧ es[j]? = some d := fun {i k d} e => by
      cases i with
      | zero => unfold At env0 at e; simp only [List.getElem?_cons_zero] at e; cases e; exact .inl ⟨rfl, rfl, rfl⟩
      | succ j => exact .inr ⟨j, rfl, at_map (show At (es.map persE ++ List.replicate (N.length - es.length - 1) none) j k d from key0 e)⟩
    rw [List.length_cons] at hl
    refine ⟨by rw [start_len (by rw [List.length_cons, r.length]; omega)]; unfold env0; rw [List.length_cons, List.length_append, List.length_map, List.length_replicate]; omega, sb, fun i k d e => ?_, fun i j k l d e b h1 h2 n1 n2 _ _ => ?_⟩
    · rcases key e with ⟨rfl, rfl, rfl⟩ | ⟨j, rfl, rfl, e2⟩
      · exact ⟨_, start_get (show (V.ref a :: ws)[0]? = some (V.ref a) from rfl), a, rfl, pa, oa⟩
      · obtain ⟨v, ev, rv⟩ := r.get' e2
        exact ⟨v, start_get (by rw [List.getElem?_cons_succ]; exact ev), rv⟩
    · rcases key h1 with ⟨rfl, rfl, rfl⟩ | ⟨j1, rfl, rfl, _⟩
      · rcases key h2 with ⟨rfl, rfl, rfl⟩ | ⟨j2, rfl, rfl, _⟩
        · rfl
        · exact absurd rfl n2
      · exact absurd rfl n1
/-- behind a def's body -/
theorem ext_end {N : List Str} {bor : Bool} {vs : List V} {ds : List D} (h : ArgR K P H bor vs ds) {σ' : Sg} {δ' : DEnv} {P' H' : Hp} (S' : SR K P' H' σ' δ') (s : Stp (L2.start N vs) (env0 N.length bor ds) P H σ' δ' P' H') :
    ExtX (bAdr bor vs) P H P' H' ∧ BorR K P' H' (bAdr bor vs) (borC bor δ') ∧ ∀ a, ¬ Adr (L2.start N vs) (env0 N.length bor ds) .own a := by
  cases bor with
  | false =>
    have no : ∀ k, k ≠ .pers → ∀ b, ¬ Adr (L2.start N vs) (env0 N.length false ds) k b := fun k hk b ⟨i, d, e, _⟩ => hk (at_map (show At (ds.map persE ++ _) i k d from e)).1
    have eb : bAdr false vs = none := rfl
    rw [eb]
    exact ⟨⟨fun b o e _ => s.keep b o e (no .own (by decide) b) (no .bor (by decide) b), fun b o e _ => s.pkeep b o e (no .own (by decide) b) (no .bor (by decide) b), s.live, s.sub, S'.ph⟩, fun a (e : (none : Option Addr) = some a) => (nomatch e), no .own (by decide)⟩
  | true =>
    obtain ⟨a, ws, c, es, rfl, rfl, pa, oa, r⟩ := h
    have key : ∀ {i k d}, At (env0 N.length true (c :: es)) i k d → (i = 0 ∧ k = .bor ∧ d = c) ∨ ∃ j, i = j + 1 ∧ k = .pers ∧ es[j]? = some d := fun {i k d} e => by
      cases i with
      | zero => unfold At env0 at e; simp only [List.getElem?_cons_zero] at e; cases e; exact .inl ⟨rfl, rfl, rfl⟩
      | succ j => exact .inr ⟨j, rfl, at_map (show At (es.map persE ++ List.replicate (N.length - es.length - 1) none) j k d from key0 e)⟩
    have nown : ∀ b, ¬ Adr (L2.start N (.ref a :: ws)) (env0 N.length true (c :: es)) .own b := fun b ⟨i, d, e, _⟩ => by
      rcases key e with ⟨_, z, _⟩ | ⟨_, _, z, _⟩ <;> cases z
    have nbor : ∀ b, (some a : Option Addr) ≠ some b → ¬ Adr (L2.start N (.ref a :: ws)) (env0 N.length true (c :: es)) .bor b := fun b nb ⟨i, d, e, q⟩ => by
      rcases key e with ⟨rfl, _, _⟩ | ⟨_, _, z, _⟩
      · rw [start_get (show (V.ref a :: ws)[0]? = some (V.ref a) from rfl)] at q; cases q; exact nb rfl
      · cases z
    refine ⟨⟨fun b o e nb => s.keep b o e (nown b) (nbor b nb), fun b o e nb => s.pkeep b o e (nown b) (nbor b nb), s.live, s.sub, S'.ph⟩, fun b e => ?_, nown⟩
    cases e
    obtain ⟨⟨d', h'⟩, q⟩ := s.bor 0 c (by unfold At env0; rfl)
    obtain ⟨v, ev, b, rfl, pb, ob⟩ := S'.sl 0 .bor d' h'
    rw [q, start_get (show (V.ref a :: ws)[0]? = some (V.ref a) from rfl)] at ev; cases ev
    have ec : borC true δ' = d' := by unfold borC; rw [if_pos rfl, show δ'[0]? = some (some (.bor, d')) from h']
    rw [ec]
    exact ⟨pb, ob⟩
end
/-- THE RULE for a def: its body by data -/
theorem fn_ok {P : Program} {w : World} {K : PySem.W.Frag} {mg : Str → Option Value} {base : Heap} {x qual : Str} {st : Stmt} {f : Addr} {fd : FuncData} {N ps : List Str} {k : Nat} {bor : Bool} {t : SM} (F : Fun K x qual st f fd) (S : FnScope N ps (defScope st))
    (hb : ∀ (cdv : Value) (A : Around) (outer : List Env) (s : Shared) (H : Hp) (E : XK), Room k (A.deeper (envOfC qual (defScope st) s.heap.objs.size f cdv)) →
      PSs (cxOf (L2.CX P w) P w K mg base N qual (defScope st) f cdv A outer s H E) (defBody st) (sD ⟨P, w, K⟩ mg (fun cls d _ H => E cls d H) t)) :
    FnOk P w K mg base (L2.CX P w) (k + 1) f fd ps (spD ⟨P, w, K⟩ mg bor (runF N.length ps.length bor t)) := by
  have hpl : ps.length ≤ N.length := by have := congrArg List.length S.pre; rw [List.length_take] at this; omega
  have lenOf : ∀ {vs H Q E}, spD ⟨P, w, K⟩ mg bor (runF N.length ps.length bor t) vs H Q E → vs.length = ps.length := fun {vs H Q E} ⟨P1, ds, sb, ar, h⟩ => by
    unfold runF at h
    by_cases c : ds.length = ps.length
    · rw [argR_len ar, c]
    · rw [if_neg c] at h; exact h.elim
  refine F.okX S (fun vs H Q E h => lenOf h) fun cdv A outer s H vs Q E hr h => ⟨_, hb cdv A outer s H E hr, ?_⟩
  have hlen := lenOf h
  obtain ⟨P1, ds, sb, ar, h⟩ := h
  have hl : ds.length = ps.length := by rw [← argR_len ar]; exact hlen
  have S0 := SR.start (N := N) sb ar (by omega)
  refine ⟨P1, _, S0, ?_⟩
  unfold runF at h
  rw [if_pos hl] at h
  cases e : t (env0 N.length bor ds) with
  | bad => rw [e] at h; exact h
  | bk δ => rw [e] at h; exact h.elim
  | ct δ => rw [e] at h; exact h.elim
  | nx δ' =>
    rw [e] at h
    intro σ' H' P' S' s'
    obtain ⟨x1, x2, _⟩ := ext_end ar S' s'
    exact h .non H' P' x1 x2 (by unfold RetX; rw [if_neg Bool.false_ne_true]; exact .non)
  | rt fr d δ' =>
    rw [e] at h
    intro v σ' H' P' S' s' r
    obtain ⟨x1, x2, x3⟩ := ext_end ar S' s'
    refine h v H' P' x1 x2 ?_
    unfold RetR at r
    unfold RetX
    by_cases c : fr = true
    · rw [if_pos c] at r ⊢
      obtain ⟨a, ea, h1, h2, _, _, h3⟩ := r
      exact ⟨a, ea, h1.elim (fun z => absurd z (x3 a)) id, h2, h3⟩
    · rw [if_neg c] at r ⊢; exact r
  | ex x δ' =>
    rw [e] at h
    intro cls d σ' H' P' S' s' r
    obtain ⟨x1, x2, _⟩ := ext_end ar S' s'
    exact h cls d H' P' x1 x2 r
/-! ### the caller -/
def callF (g : FSem) (fs : M (List D)) : M R := bindM fs fun ds δ => match g ds with
  | .ok fr d _ => .ok (resR fr d) δ
  | .ex x _ => .ex x δ
  | .bad => .bad
/-- the first argument in slot i, lent -/
def callB (i : Nat) (g : FSem) (fs : M (List D)) : M R := fun δ => if has δ i = true then bindM fs (fun ds δ1 => match δ1[i]? with
  | some (some (k, c)) => if k = .own ∨ k = .bor then (match g (c :: ds) with
    | .ok fr d c' => .ok (resR fr d) (δ1.set i (some (k, c')))
    | .ex x c' => .ex x (δ1.set i (some (k, c')))
    | .bad => .bad) else .bad
  | _ => .bad) δ else .bad
section
variable {K : Bas} {P H P' H' : Hp} {σ : Sg} {δ : DEnv}
theorem SR.call (S : SR K P H σ δ) {i : Nat} {k : Kd} {c c' : D} {a : Addr} (h : At δ i k c) (hk : k = .own ∨ k = .bor) (e : σ[i]? = some (some (.ref a))) (x : ExtX (some a) P H P' H') (b : BorR K P' H' (some a) c') :
    SR K P' H' σ (δ.set i (some (k, c'))) ∧ Stp σ δ P H σ (δ.set i (some (k, c'))) P' H' := by
  obtain ⟨pn, n⟩ := b a rfl
  have kp : k ≠ .pers := by rcases hk with rfl | rfl <;> decide
  have hi : i < δ.length := (List.getElem?_eq_some_iff.mp (show δ[i]? = some _ from h)).1
  have other : ∀ j l d, At δ j l d → l ≠ .pers → j ≠ i → ∀ b, σ[j]? = some (some (.ref b)) → (some a : Option Addr) ≠ some b := fun j l d hj hl ne b eb z => by
    cases z
    exact ne (S.inj j i l k d c a hj h hl kp eb e)
  refine ⟨⟨by rw [List.length_set]; exact S.len, x.ph, fun j l d hj => ?_, fun j1 j2 l1 l2 d1 d2 b h1 h2 n1 n2 q1 q2 => ?_⟩, ⟨fun b v q n1 n2 => ?_, fun b v q n1 n2 => ?_, x.live, x.sub, fun b ⟨j, d, hj, q⟩ => ?_, fun j d hj => ?_, fun j d hj => ?_⟩⟩
  · rcases at_set hj with ⟨rfl, rfl, rfl, _⟩ | ⟨ne, hj⟩
    · refine ⟨_, e, ?_⟩
      rcases hk with rfl | rfl
      · exact ⟨a, rfl, pn, n⟩
      · exact ⟨a, rfl, pn, n⟩
    · obtain ⟨v, ev, sl⟩ := S.sl j l d hj
      refine ⟨v, ev, ?_⟩
      cases l with
      | pers => exact Rep.sub x.sub sl
      | own => obtain ⟨b, rfl, nb, ob⟩ := sl; have hb := other j _ d hj (by decide) ne b ev; obtain ⟨u, eu⟩ := ob.there; exact ⟨b, rfl, by rw [x.pkeep b u eu hb]; exact nb, ob.step x.sub fun q e => x.keep b q e hb⟩
      | bor => obtain ⟨b, rfl, nb, ob⟩ := sl; have hb := other j _ d hj (by decide) ne b ev; obtain ⟨u, eu⟩ := ob.there; exact ⟨b, rfl, by rw [x.pkeep b u eu hb]; exact nb, ob.step x.sub fun q e => x.keep b q e hb⟩
      | lck => obtain ⟨b, rfl, nb, ob⟩ := sl; have hb := other j _ d hj (by decide) ne b ev; obtain ⟨u, eu⟩ := ob.there; exact ⟨b, rfl, by rw [x.pkeep b u eu hb]; exact nb, ob.step x.sub fun q e => x.keep b q e hb⟩
  · have back : ∀ j l d, At (δ.set i (some (k, c'))) j l d → ∃ d', At δ j l d' := fun j l d z => by
      rcases at_set z with ⟨rfl, rfl, _, _⟩ | ⟨_, z⟩
      · exact ⟨c, h⟩
      · exact ⟨d, z⟩
    obtain ⟨e1, g1⟩ := back j1 l1 d1 h1
    obtain ⟨e2, g2⟩ := back j2 l2 d2 h2
    exact S.inj j1 j2 l1 l2 e1 e2 b g1 g2 n1 n2 q1 q2
  · refine x.keep b v q fun z => ?_
    cases z
    rcases hk with rfl | rfl
    · exact n1 ⟨i, c, h, e⟩
    · exact n2 ⟨i, c, h, e⟩
  · refine x.pkeep b v q fun z => ?_
    cases z
    rcases hk with rfl | rfl
    · exact n1 ⟨i, c, h, e⟩
    · exact n2 ⟨i, c, h, e⟩
  · rcases at_set hj with ⟨rfl, hk', _, _⟩ | ⟨_, hj⟩
    · subst hk'; exact .inl ⟨j, c, h, q⟩
    · exact .inl ⟨j, d, hj, q⟩
  · by_cases ne : j = i
    · subst ne
      have : k = .bor := by
        have h1 : δ[j]? = some (some (.bor, d)) := hj
        rw [show δ[j]? = some (some (k, c)) from h] at h1; cases h1; rfl
      subst this
      exact ⟨⟨c', at_set_self (show δ[j]? = some (some (.bor, c)) from h)⟩, rfl⟩
    · exact ⟨⟨d, at_set_ne ne hj⟩, rfl⟩
  · rcases at_set hj with ⟨rfl, hk', _, _⟩ | ⟨_, hj⟩
    · subst hk'; exact ⟨c, h⟩
    · exact ⟨d, hj⟩
theorem ExtX.ext (x : ExtX none P H P' H') : Ext P H P' H' := ⟨fun b o e => x.keep b o e (fun z => nomatch z), fun b o e => x.pkeep b o e (fun z => nomatch z), x.sub, x.ph⟩
theorem RetX.rrep {δ' : DEnv} {v : V} {fr : Bool} {d : D} (r : RetX K H P' H' v fr d) (S : SR K P H σ δ) (hs : ∀ k a, k ≠ .pers → Adr σ δ' k a → ∃ l, l ≠ .pers ∧ Adr σ δ l a) : RRep K H P' H' σ δ' v (resR fr d) := by
  unfold RetX at r
  unfold resR
  by_cases c : fr = true
  · rw [if_pos c] at r ⊢
    obtain ⟨a, e, n, p, o⟩ := r
    exact ⟨a, e, n, p, fun z => let ⟨l, hl, z⟩ := hs _ a (by decide) z; S.fresh n hl z, fun z => let ⟨l, hl, z⟩ := hs _ a (by decide) z; S.fresh n hl z, o⟩
  · rw [if_neg c] at r ⊢; exact r
end
section
variable {X : Cx} {W : WX} {a e : Expr} {es : List Expr} {fs : M (List D)} {g : FSem} {x : Str} {p pos : Pos} {k i : Nat} {f : Addr} {fd : FuncData} {ps : List Str}
theorem de_callF (F : FnOk X.prog X.w X.K X.mg X.base (L2.CX X.prog X.w) k f fd ps (spD X.bas X.mg false g)) (hr : Room k X.A) (hg : Gl X x) (hm : X.mg x = some (.ref f)) (hk : PySem.W.keepIn X.K (.ref f) = true) (hb : Binds X.K fd ps []) (tk : Takes X W)
    (ha : PA X (e :: es) (aD X.bas X.mg W fs)) (hdb : (x == ("__debug__" : Str)) = false) (he : starEach (e :: es) X.env = (false, eval e X.env) :: starEach es X.env) (hpl : (backTo pos (starEach es X.env)).any (·.1) = false) :
    PE X (.Call (.Name x p) (e :: es) [] pos) (eD X.bas X.mg W (callF g fs)) :=
  PE.mono (pe_callSD F hr hg hm hk hb .nil (fun σ => passAt tk σ) ha hdb he hpl) fun σ H Q h => gD.bind rE_up h fun ds δ1 vs H1 P1 δ P e1 S S1 s1 r1 q => by
    rw [List.append_nil]
    refine ⟨P1, ds, S1.ph, r1, ?_⟩
    have eb : bAdr false vs = none := rfl
    rw [eb]
    cases eg : g ds with
    | bad => rw [eg] at q; exact q
    | ok fr d b =>
      rw [eg] at q
      intro v H' P' xx _ rx
      have x' := xx.ext
      exact q v H' P' (S1.ext x') x'.stp (rx.rrep S1 fun l a hl z => ⟨l, hl, z⟩)
    | ex xc b =>
      rw [eg] at q
      intro cls dd H' P' xx _ rx
      have x' := xx.ext
      exact q cls dd H' P' (S1.ext x') x'.stp rx
theorem de_callLend {y : Str} {py : Pos} (F : FnOk X.prog X.w X.K X.mg X.base (L2.CX X.prog X.w) k f fd ps (spD X.bas X.mg true g)) (hr : Room k X.A) (hg : Gl X x) (hm : X.mg x = some (.ref f)) (hk : PySem.W.keepIn X.K (.ref f) = true) (hb : Binds X.K fd ps []) (tk : Takes X W)
    (hN : X.N[i]? = some y) (hv : Vis X.env.scope y) (hd : (y == ("__debug__" : Str)) = false) (hcd : (y == ("__classdict__" : Str)) = false)
    (ha : PA X es (aD X.bas X.mg W fs)) (hdb : (x == ("__debug__" : Str)) = false) (he : starEach (.Name y py :: es) X.env = (false, eval (.Name y py) X.env) :: starEach es X.env) (hpl : (backTo pos (starEach es X.env)).any (·.1) = false) :
    PE X (.Call (.Name x p) (.Name y py :: es) [] pos) (eD X.bas X.mg W (callB i g fs)) :=
  PE.mono (pe_callSD F hr hg hm hk hb .nil (fun σ => passAt tk σ) (pa_cons (pe_var hN hv hd hcd) ha he) hdb he hpl) fun σ H Q ⟨P, δ, S, h⟩ => by
    unfold callB at h
    by_cases hh : has δ i = true
    · rw [if_pos hh] at h
      obtain ⟨u, eu⟩ := has_at S hh
      refine ⟨u, eu, P, δ, S, gK.bind rE_up h fun ds δ1 vs H1 P1 e1 S1 s1 r1 q => ?_⟩
      show spD X.bas X.mg true g (u :: vs ++ []) H1 Q (WE W σ)
      rw [List.append_nil]
      cases e2 : δ1[i]? with
      | none => rw [e2] at q; exact q.elim
      | some o =>
        rw [e2] at q
        cases o with
        | none => exact q.elim
        | some pr =>
          obtain ⟨kd, c⟩ := pr
          dsimp only at q
          by_cases hkd : kd = .own ∨ kd = .bor
          · rw [if_pos hkd] at q
            obtain ⟨v, ev, sl⟩ := S1.sl i kd c e2
            rw [eu] at ev; cases ev
            have sl' : ∃ a, u = .ref a ∧ P1 a = none ∧ OwnR X.bas P1 H1 a c := by
              rcases hkd with rfl | rfl
              · exact sl
              · exact sl
            obtain ⟨a, rfl, pa, oa⟩ := sl'
            refine ⟨P1, c :: ds, S1.ph, ⟨a, vs, c, ds, rfl, rfl, pa, oa, r1⟩, ?_⟩
            have eb : bAdr true (V.ref a :: vs) = some a := rfl
            rw [eb]
            have back : ∀ {c' : D} {l : Kd} {b : Addr}, l ≠ .pers → Adr σ (δ1.set i (some (kd, c'))) l b → ∃ l', l' ≠ .pers ∧ Adr σ δ1 l' b := fun {c' l b} hl ⟨j, d, z, y⟩ => by
              rcases at_set z with ⟨rfl, rfl, _, _⟩ | ⟨_, z⟩
              · exact ⟨l, hl, j, c, e2, y⟩
              · exact ⟨l, hl, j, d, z, y⟩
            cases eg : g (c :: ds) with
            | bad => rw [eg] at q; exact q
            | ok fr d c' =>
              rw [eg] at q
              intro v H' P' xx bb rx
              obtain ⟨S2, s2⟩ := S1.call (show At δ1 i kd c from e2) hkd eu xx bb
              exact q v H' P' S2 s2 (rx.rrep S1 fun l b hl z => back hl z)
            | ex xc c' =>
              rw [eg] at q
              intro cls dd H' P' xx bb rx
              obtain ⟨S2, s2⟩ := S1.call (show At δ1 i kd c from e2) hkd eu xx bb
              exact q cls dd H' P' S2 s2 rx
          · rw [if_neg hkd] at q; exact q.elim
    · rw [if_neg hh] at h; exact h.elim
end
end DL

/-! # DL, part 13: built-ins by data. -/
namespace DL
open PySem PySem.Spec PyProof.Rows L2

def boolsO : List D → Option (List Bool)
  | [] => some []
  | .bool b :: ds => (boolsO ds).map (b :: ·)
  | _ => none
def intsO : List D → Option (List Int)
  | [] => some []
  | .int b :: ds => (intsO ds).map (b :: ·)
  | _ => none
section
variable {K : Bas} {P H : Hp}
theorem of_bools : ∀ {ds : List D} {bs : List Bool}, boolsO ds = some bs → ds = bs.map .bool
  | [], _, h => by cases h; rfl
  | .bool b :: ds, bs, h => by
    unfold boolsO at h
    obtain ⟨cs, e, rfl⟩ := Option.map_eq_some_iff.mp h
    rw [List.map_cons, of_bools e]
  | .none :: _, _, h => by cases h
  | .int _ :: _, _, h => by cases h
  | .str _ :: _, _, h => by cases h
  | .list _ :: _, _, h => by cases h
  | .tuple _ :: _, _, h => by cases h
  | .dict _ :: _, _, h => by cases h
theorem of_ints : ∀ {ds : List D} {bs : List Int}, intsO ds = some bs → ds = bs.map .int
  | [], _, h => by cases h; rfl
  | .int b :: ds, bs, h => by
    unfold intsO at h
    obtain ⟨cs, e, rfl⟩ := Option.map_eq_some_iff.mp h
    rw [List.map_cons, of_ints e]
  | .none :: _, _, h => by cases h
  | .bool _ :: _, _, h => by cases h
  | .str _ :: _, _, h => by cases h
  | .list _ :: _, _, h => by cases h
  | .tuple _ :: _, _, h => by cases h
  | .dict _ :: _, _, h => by cases h
theorem boolsO_map (bs : List Bool) : boolsO (bs.map .bool) = some bs := by
  induction bs with
  | nil => rfl
  | cons b bs ih => rw [List.map_cons]; unfold boolsO; rw [ih]; rfl
theorem intsO_map (bs : List Int) : intsO (bs.map .int) = some bs := by
  induction bs with
  | nil => rfl
  | cons b bs ih => rw [List.map_cons]; unfold intsO; rw [ih]; rfl
theorem repL_bls : ∀ {bs : List Bool} {vs : List V}, RepL K P vs (bs.map .bool) → vs = bs.map V.bl
  | [], _, .nil => rfl
  | b :: bs, _, .cons a t => by
    cases a
    rw [List.map_cons, repL_bls t]
theorem repL_int : ∀ {bs : List Int} {vs : List V}, RepL K P vs (bs.map .int) → vs = bs.map V.int
  | [], _, .nil => rfl
  | b :: bs, _, .cons a t => by
    cases a
    rw [List.map_cons, repL_int t]
theorem drs1 {vs : List V} {d : D} (h : DRs K P H vs [d]) : ∃ v, vs = [v] ∧ DR K P H v d := by
  cases h with
  | cons a t => cases t; exact ⟨_, rfl, a⟩
theorem drs2 {vs : List V} {d e : D} (h : DRs K P H vs [d, e]) : ∃ v w, vs = [v, w] ∧ DR K P H v d ∧ DR K P H w e := by
  cases h with
  | cons a t =>
    cases t with
    | cons b t => cases t; exact ⟨_, _, rfl, a, b⟩
end
section
variable {X : Cx}
theorem CallR.from {f : Value} {r : List V → Hp → VK → Prop} {g : List D → Option (Bool × D)} (h : CallR X f r) (k : ∀ xs H Q P ds, Sub P H → DRs X.bas P H xs ds → OpV X.bas P H (g ds) Q → r xs H Q) : CallR X f (cG X.bas g) :=
  fun pins s σ H xs us Q I rx ⟨P, ds, sb, hx, ho⟩ => h pins s σ H xs us Q I rx (k xs H Q P ds sb hx ho)
theorem CallR.or {f : Value} {r r' : List V → Hp → VK → Prop} (h : CallR X f r) (h' : CallR X f r') : CallR X f (fun xs H Q => r xs H Q ∨ r' xs H Q) :=
  fun pins s σ H xs us Q I rx hw => hw.elim (h pins s σ H xs us Q I rx) (h' pins s σ H xs us Q I rx)
/-! len -/
def lenD : List D → Option (Bool × D)
  | [.list xs] => some (false, .int xs.length)
  | [.tuple xs] => some (false, .int xs.length)
  | [.dict m] => some (false, .int m.length)
  | _ => none
theorem call_lenDD : CallR X (.builtin "len") (cG X.bas lenD) := by
  intro pins s σ H xs us Q I rx ⟨P, ds, sb, hx, ho⟩
  unfold lenD at ho
  split at ho
  · obtain ⟨v, rfl, hv⟩ := drs1 hx
    obtain ⟨a, vs, rfl, e, r⟩ := hv.list sb
    exact call_len_seq pins s σ H _ us Q I rx ⟨a, vs, rfl, .inl (.inl (.inl e)), by rw [r.length]; exact ho.atom sb (.int _)⟩
  · obtain ⟨v, rfl, hv⟩ := drs1 hx
    obtain ⟨a, vs, rfl, _, e, r⟩ := hv.tuple sb
    exact call_len_seq pins s σ H _ us Q I rx ⟨a, vs, rfl, .inr e, by rw [r.length]; exact ho.atom sb (.int _)⟩
  · obtain ⟨v, rfl, hv⟩ := drs1 hx
    obtain ⟨u, rfl, ru⟩ := vals1 rx
    obtain ⟨a, rfl, ⟨kvs, e, r⟩ | ⟨kvs, e, _, r⟩⟩ := hv.dict sb
    · cases ru
      exact d_len I e fun t s' I' => ⟨.int kvs.length, H, I', ⟨t, rfl⟩, by rw [r.length]; exact ho.atom sb (.int _)⟩
    · obtain rfl : u = .ref a := ru
      obtain ⟨z, hd, ys, rel, dd⟩ := td_of I sb e r
      have hl : kvs.length = ys.length := Paired.length rel
      refine call_len_dictH hd dd (by rw [← hl]; rw [sizeLine_eq] at z; omega) ?_
      rw [← hl]
      exact ⟨.int ((kvs.length : Nat) : Int), H, I.tok _, ⟨_, rfl⟩, by rw [r.length]; exact ho.atom sb (.int _)⟩
  · exact ho.elim
/-! abs, min, max of two, int -/
def absD : List D → Option (Bool × D)
  | [.int i] => some (false, .int (if i < 0 then -i else i))
  | _ => none
def min2D : List D → Option (Bool × D)
  | [.int i, .int j] => some (false, .int (if j < i then j else i))
  | _ => none
def max2D : List D → Option (Bool × D)
  | [.int i, .int j] => some (false, .int (if j > i then j else i))
  | _ => none
def intD : List D → Option (Bool × D)
  | [.int i] => some (false, .int i)
  | [.bool k] => some (false, .int (if k then 1 else 0))
  | _ => none
theorem call_absDD : CallR X (.builtin "abs") (cG X.bas absD) := CallR.from call_abs fun xs H Q P ds sb hx ho => by
  unfold absD at ho
  split at ho
  · obtain ⟨v, rfl, hv⟩ := drs1 hx
    cases hv.int
    exact ⟨_, rfl, ho.atom sb (.int _)⟩
  · exact ho.elim
theorem call_min2DD (hc : X.calm = true) : CallR X (.builtin "min") (cG X.bas min2D) := CallR.from (call_min2 hc) fun xs H Q P ds sb hx ho => by
  unfold min2D at ho
  split at ho
  · obtain ⟨v, w, rfl, hv, hw⟩ := drs2 hx
    cases hv.int; cases hw.int
    exact ⟨_, _, rfl, ho.atom sb (.int _)⟩
  · exact ho.elim
theorem call_max2DD (hc : X.calm = true) : CallR X (.builtin "max") (cG X.bas max2D) := CallR.from (call_max2 hc) fun xs H Q P ds sb hx ho => by
  unfold max2D at ho
  split at ho
  · obtain ⟨v, w, rfl, hv, hw⟩ := drs2 hx
    cases hv.int; cases hw.int
    exact ⟨_, _, rfl, ho.atom sb (.int _)⟩
  · exact ho.elim
theorem call_intDD : CallR X (.type "int") (cG X.bas intD) := CallR.from call_int1 fun xs H Q P ds sb hx ho => by
  unfold intD at ho
  split at ho
  · obtain ⟨v, rfl, hv⟩ := drs1 hx
    cases hv.int
    exact .inl ⟨_, rfl, ho.atom sb (.int _)⟩
  · obtain ⟨v, rfl, hv⟩ := drs1 hx
    cases hv.bool
    exact .inr ⟨_, rfl, ho.atom sb (.int _)⟩
  · exact ho.elim
/-! any, all, sum, min, max of a list -/
def allD : List D → Option (Bool × D)
  | [.list ds] => (boolsO ds).map fun bs => (false, .bool (bs.all id))
  | _ => none
def anyD : List D → Option (Bool × D)
  | [.list ds] => (boolsO ds).map fun bs => (false, .bool (bs.any id))
  | _ => none
def sumD : List D → Option (Bool × D)
  | [.list ds] => (intsO ds).map fun bs => (false, .int bs.sum)
  | _ => none
theorem call_allDD (hc : X.calm = true) : CallR X (.builtin "all") (cG X.bas allD) := CallR.from (cr_all hc) fun xs H Q P ds sb hx ho => by
  unfold allD at ho
  split at ho
  · rename_i ds
    obtain ⟨v, rfl, hv⟩ := drs1 hx
    obtain ⟨a, vs, rfl, e, r⟩ := hv.list sb
    cases eb : boolsO ds with
    | none => rw [eb] at ho; exact ho.elim
    | some bs =>
      rw [eb] at ho
      rw [of_bools eb] at r
      exact ⟨a, bs, rfl, by rw [← repL_bls r]; exact .inl (.inl e), ho.atom sb (.bl _)⟩
  · exact ho.elim
theorem call_anyDD (hc : X.calm = true) : CallR X (.builtin "any") (cG X.bas anyD) := CallR.from (cr_any hc) fun xs H Q P ds sb hx ho => by
  unfold anyD at ho
  split at ho
  · rename_i ds
    obtain ⟨v, rfl, hv⟩ := drs1 hx
    obtain ⟨a, vs, rfl, e, r⟩ := hv.list sb
    cases eb : boolsO ds with
    | none => rw [eb] at ho; exact ho.elim
    | some bs =>
      rw [eb] at ho
      rw [of_bools eb] at r
      exact ⟨a, bs, rfl, by rw [← repL_bls r]; exact .inl (.inl e), ho.atom sb (.bl _)⟩
  · exact ho.elim
theorem call_sumDD (hc : X.calm = true) : CallR X (.builtin "sum") (cG X.bas sumD) := CallR.from (cr_sum hc) fun xs H Q P ds sb hx ho => by
  unfold sumD at ho
  split at ho
  · rename_i ds
    obtain ⟨v, rfl, hv⟩ := drs1 hx
    obtain ⟨a, vs, rfl, e, r⟩ := hv.list sb
    cases eb : intsO ds with
    | none => rw [eb] at ho; exact ho.elim
    | some bs =>
      rw [eb] at ho
      rw [of_ints eb] at r
      exact ⟨a, bs, rfl, by rw [← repL_int r]; exact .inl (.inl e), ho.atom sb (.int _)⟩
  · exact ho.elim
/-! list, tuple -/
def listD : List D → Option (Bool × D)
  | [.list ds] => some (true, .list ds)
  | [.tuple ds] => some (true, .list ds)
  | [.dict m] => some (true, .list (m.map (·.1)))
  | _ => none
def tupleD : List D → Option (Bool × D)
  | [.list ds] => some (false, .tuple ds)
  | [.tuple ds] => some (false, .tuple ds)
  | _ => none
theorem call_tupleDD : CallR X (.type "tuple") (cG X.bas tupleD) := CallR.from call_tuple_of fun xs H Q P ds sb hx ho => by
  unfold tupleD at ho
  split at ho
  · obtain ⟨v, rfl, hv⟩ := drs1 hx
    obtain ⟨a, vs, rfl, e, r⟩ := hv.list sb
    exact ⟨a, vs, rfl, .inl ⟨.inl (.inl e), ho.newT sb r⟩⟩
  · obtain ⟨v, rfl, hv⟩ := drs1 hx
    obtain ⟨a, vs, rfl, e0, e, r⟩ := hv.tuple sb
    exact ⟨a, vs, rfl, .inr ⟨e, ho.atom sb (.tup e0 r)⟩⟩
  · exact ho.elim
end
end DL

/-! # DL, part 14: isinstance; powers. -/
namespace DL
open PySem PySem.Spec PyProof.Rows L2

inductive Dk where | none | bool | int | str | list | tuple | dict
  deriving DecidableEq
def dk : D → Dk
  | .none => .none
  | .bool _ => .bool
  | .int _ => .int
  | .str _ => .str
  | .list _ => .list
  | .tuple _ => .tuple
  | .dict _ => .dict
def Dk.nm : Dk → String
  | .none => "NoneType"
  | .bool => "bool"
  | .int => "int"
  | .str => "str"
  | .list => "list"
  | .tuple => "tuple"
  | .dict => "dict"
abbrev tyN (d : D) : String := (dk d).nm
inductive Ty where | bool | int | str | list | tuple | dict
  deriving DecidableEq
def Ty.nm : Ty → String
  | .bool => "bool"
  | .int => "int"
  | .str => "str"
  | .list => "list"
  | .tuple => "tuple"
  | .dict => "dict"
def Ty.isK : Ty → Dk → Bool
  | .bool, .bool => true
  | .int, .bool => true
  | .int, .int => true
  | .str, .str => true
  | .list, .list => true
  | .tuple, .tuple => true
  | .dict, .dict => true
  | _, _ => false
def Ty.is (T : Ty) (d : D) : Bool := T.isK (dk d)
theorem kit_is (K : PySem.W.Frag) (T : Ty) (d : D) : PySem.W.kitOne K (.type (tyN d)) (.type T.nm) = some (T.is d) := by
  unfold Ty.is tyN
  generalize dk d = k
  cases T <;> cases k <;> exact kit_ty (by decide +kernel)
theorem kit_any (K : PySem.W.Frag) (d : D) : ∀ Ts : List Ty, PySem.W.kitAny K (.type (tyN d)) (Ts.map fun T => .type T.nm) = some (Ts.any fun T => T.is d)
  | [] => kitAny_nil
  | T :: Ts => by
    rw [List.map_cons, List.any_cons]
    refine kitAny_cons (kit_is K T d) (fun h => ?_) fun h => ?_
    · rw [h, Bool.false_or]; exact kit_any K d Ts
    · rw [h, Bool.true_or]
section
variable {X : Cx} {pins : List (Addr × Obj)} {σ : Sg} {H P : Hp} {s : Shared}
theorem kit_dr {v : V} {u : Value} {d : D} (I : Inv X pins σ H s) (sb : Sub P H) (hv : DR X.bas P H v d) (r : RelV v u) : ∃ G : Heap → Prop, PySem.W.KitX X.K u (.type (tyN d)) G ∧ G s.heap ∧ u ≠ .builtin "__main__.__loader__#opaque" := by
  cases d with
  | none => cases hv.none; cases (show u = Value.none from r); exact ⟨_, PySem.W.kitx_none, True.intro, fun z => nomatch z⟩
  | bool b => cases hv.bool; cases (show u = Value.bool b from r); exact ⟨_, PySem.W.kitx_bool, True.intro, fun z => nomatch z⟩
  | int i => cases hv.int; obtain ⟨t, q⟩ := (show ∃ t, u = Value.int i t from r); cases q; exact ⟨_, PySem.W.kitx_int, True.intro, fun z => nomatch z⟩
  | str i => cases hv.str; obtain ⟨t, q⟩ := (show ∃ t, u = Value.str i t from r); cases q; exact ⟨_, PySem.W.kitx_str, True.intro, fun z => nomatch z⟩
  | list ds =>
    obtain ⟨a, vs, rfl, e, _⟩ := hv.list sb
    cases (show u = Value.ref a from r)
    obtain ⟨its, rv, p, _⟩ := I.list (.inl (.inl e))
    obtain ⟨o, h1, h2⟩ := p.isList.typeIs
    exact ⟨_, PySem.W.kitx_list, ⟨o, h1, h2⟩, fun z => nomatch z⟩
  | tuple ds =>
    obtain ⟨a, vs, rfl, _, e, _⟩ := hv.tuple sb
    cases (show u = Value.ref a from r)
    obtain ⟨its, rv, p, _⟩ := I.tuple e
    obtain ⟨o, h1, h2⟩ := p.typeIs
    exact ⟨_, PySem.W.kitx_tuple, ⟨o, h1, h2⟩, fun z => nomatch z⟩
  | dict m =>
    obtain ⟨a, rfl, ⟨kvs, e, _⟩ | ⟨kvs, e, _, _⟩⟩ := hv.dict sb
    · cases (show u = Value.ref a from r)
      obtain ⟨o, h1, h2⟩ := dk_type I e
      exact ⟨_, PySem.W.kitx_dict, ⟨o, h1, h2⟩, fun z => nomatch z⟩
    · cases (show u = Value.ref a from r)
      obtain ⟨o, h1, h2⟩ := td_type I e
      exact ⟨_, PySem.W.kitx_dict, ⟨o, h1, h2⟩, fun z => nomatch z⟩
end
section
variable {X : Cx} {W : WX} {e : Expr} {f : M R} {p pos : Pos}
/-- isinstance(x, T), isinstance(x, (T, ..)) -/
def isaD (Ts : List Ty) (d : D) : Option (Bool × D) := bl (Ts.any fun T => T.is d)
def rIs1 (K : Bas) (T : Ty) : List V → Hp → VK → Prop := fun xs H Q => ∃ P v d, Sub P H ∧ xs = [v, .ty T.nm] ∧ DR K P H v d ∧ Q (.bl (T.is d)) H
theorem call_is1 (T : Ty) : CallR X (.builtin "isinstance") (rIs1 X.bas T) := by
  intro pins s σ H xs us Q I r ⟨P, v, d, sb, ex, hv, q⟩
  subst ex
  obtain ⟨u1, u2, rfl, r1, r2⟩ := vals2 r
  cases (show u2 = Value.type T.nm from r2)
  obtain ⟨G, Z, g, hx⟩ := kit_dr I sb hv r1
  exact PySem.W.kia_one Z I.kIn g (kit_is X.K T d) hx fun tk => ⟨.bl _, H, I.tok tk, rfl, q⟩
def rIsN (K : Bas) (Ts : List Ty) : List V → Hp → VK → Prop := fun xs H Q => ∃ P v d tp, Sub P H ∧ xs = [v, .ref tp] ∧ H tp = some (.tup (Ts.map fun T => V.ty T.nm)) ∧ DR K P H v d ∧ Q (.bl (Ts.any fun T => T.is d)) H
theorem vals_ty : ∀ {Ts : List Ty} {us : List Value}, Vals (Ts.map fun T => V.ty T.nm) us → us = Ts.map fun T => Value.type T.nm
  | [], _, .nil => rfl
  | T :: Ts, _, .cons a t => by rw [List.map_cons, ← vals_ty t, (show _ = Value.type T.nm from a)]
theorem call_isN (Ts : List Ty) : CallR X (.builtin "isinstance") (rIsN X.bas Ts) := by
  intro pins s σ H xs us Q I r ⟨P, v, d, tp, sb, ex, hT, hv, q⟩
  subst ex
  obtain ⟨u1, u2, rfl, r1, r2⟩ := vals2 r
  cases (show u2 = Value.ref tp from r2)
  obtain ⟨_, its, rv, o, h1, h2, n, h3⟩ := (show ObjOk X.prog X.w H s.heap tp (.tup (Ts.map fun T => V.ty T.nm)) from I.hok tp _ hT)
  have e3 := vals_ty rv
  subst e3
  obtain ⟨G, Z, g, hx⟩ := kit_dr I sb hv r1
  obtain ⟨oc, od, dt, sl⟩ := o
  simp only at h2 h3
  subst h2 h3
  exact PySem.W.kia_tup Z I.kIn g h1 (kit_any X.K d Ts) hx fun tk => ⟨.bl _, H, I.tok tk, rfl, q⟩
theorem de_isa1 {x : Str} {pT : Pos} (T : Ty) (hg : Gl X "isinstance") (hm : X.mg "isinstance" = none) (hgT : Gl X x) (hmT : X.mg x = none) (hb : bootBuiltins x = some (.type T.nm)) (hn : x ≠ "__name__") (hd : (x == ("__debug__" : Str)) = false) (ha : PE X e (eD X.bas X.mg W f))
    (hs : starEach [e, .Name x pT] X.env = (false, eval e X.env) :: starEach [.Name x pT] X.env) (hs2 : starEach [.Name x pT] X.env = (false, eval (.Name x pT) X.env) :: starEach [] X.env) (hpl : (backTo pos (starEach [.Name x pT] X.env)).any (·.1) = false) :
    PE X (.Call (.Name "isinstance" p) [e, .Name x pT] [] pos) (eD X.bas X.mg W (un1 (isaD [T]) f)) :=
  PE.mono (pe_callB (call_is1 T) hg hm boot_isinstance (pa_cons ha (pa_cons (pe_bltn (v := .ty T.nm) hgT hmT hb rfl hn hd) pa_nil hs2) hs) (by decide) (by decide) hs hpl) fun σ H Q h => gD.bind rE_up h fun r δ1 v H1 P1 δ P e1 S S1 s1 r1 q => by
    obtain ⟨d, ed, q⟩ := gK.dat q
    refine ⟨P1, v, d, S1.ph, rfl, RRep.dr r1 (Stp.refl _ _ _ _) S1 ed, ?_⟩
    have := gK.opt q S1
    unfold isaD at this
    rw [List.any_cons, List.any_nil, Bool.or_false] at this
    exact this.atom S1.ph (.bl _)
/-- the names of types -/
inductive TyNs (X : Cx) : List Expr → List Ty → Prop
  | nil : TyNs X [] []
  | cons {x : Str} {pT : Pos} {T : Ty} {es : List Expr} {Ts : List Ty} (hgT : Gl X x) (hmT : X.mg x = none) (hb : bootBuiltins x = some (.type T.nm)) (hn : x ≠ "__name__") (hd : (x == ("__debug__" : Str)) = false) (r : TyNs X es Ts) : TyNs X (.Name x pT :: es) (T :: Ts)
def tTys (Ts : List Ty) : TA := fun σ H Q => Q (Ts.map fun T => V.ty T.nm) H
theorem pa_tys {es : List Expr} {Ts : List Ty} (h : TyNs X es Ts) : PA X es (tTys Ts) := by
  induction h with
  | nil => exact pa_nil
  | cons hgT hmT hb hn hd r ih => exact pa_cons (pe_bltn (v := .ty _) hgT hmT hb rfl hn hd) ih (by simp [starEach])
theorem de_isaN {es : List Expr} {k : Nat} {pT : Pos} {Ts : List Ty} (h : TyNs X es Ts) (hl : Ts.length ≤ 1000) (hg : Gl X "isinstance") (hm : X.mg "isinstance" = none) (ha : PE X e (eD X.bas X.mg W f))
    (hs : starEach [e, .Tuple es k pT] X.env = (false, eval e X.env) :: starEach [.Tuple es k pT] X.env) (hs2 : starEach [.Tuple es k pT] X.env = (false, eval (.Tuple es k pT) X.env) :: starEach [] X.env) (hpl : (backTo pos (starEach [.Tuple es k pT] X.env)).any (·.1) = false) :
    PE X (.Call (.Name "isinstance" p) [e, .Tuple es k pT] [] pos) (eD X.bas X.mg W (un1 (isaD Ts) f)) :=
  PE.mono (pe_callB (call_isN Ts) hg hm boot_isinstance (pa_cons ha (pa_cons (pe_tup (pa_tys h)) pa_nil hs2) hs) (by decide) (by decide) hs hpl) fun σ H Q h => gD.bind rE_up h fun r δ1 v H1 P1 δ P e1 S S1 s1 r1 q => by
    obtain ⟨d, ed, q⟩ := gK.dat q
    refine ⟨line_big (by rw [List.length_map]; exact hl), fun tp hp => ?_⟩
    have x : Ext P1 H1 P1 (upd H1 tp (.tup (Ts.map fun T => V.ty T.nm))) := Ext.newO S1.ph hp
    have S2 := S1.ext x
    refine ⟨P1, v, d, tp, S2.ph, rfl, upd_same, RRep.dr r1 x.stp S2 ed, ?_⟩
    have := gK.opt q S1
    unfold isaD at this
    exact this _ _ _ x (.bl _)
end
end DL

/-! # DL, part 22: sorted. -/
namespace DL
open PySem PySem.Spec PyProof.Rows L2

def allAlikeB (ds : List D) : Bool := ds.all fun d => ds.all fun e => PySem.W.alike d e
def sortableB (ds : List D) : Bool := (ds.all fun d => match d with | .tuple (_ :: _) => true | _ => false) || (ds.all fun d => match d with | .none => false | .tuple _ => false | _ => true)
def sortOk (ds : List D) : Bool := allAlikeB ds && sortableB ds && (ds.all sm) && decide (ds.length ≤ line)
/-- the items in order -/
def sortL (ds : List D) : List D := ds.mergeSort (PySem.W.dataLe false (id : D → D))
def sortD : List D → Option (Bool × D)
  | [.list ds] => if sortOk ds = true then some (true, .list (sortL ds)) else none
  | [.dict m] => if sortOk (m.map (·.1)) = true then some (true, .list (sortL (m.map (·.1)))) else none
  | _ => none
theorem allAlike_of {ds : List D} (h : allAlikeB ds = true) : PySem.W.AllAlike ds := fun d hd e he => List.all_eq_true.mp (List.all_eq_true.mp h d hd) e he
theorem sortable_of {ds : List D} (h : sortableB ds = true) : PySem.W.Sortable ds := by
  unfold sortableB at h
  rw [Bool.or_eq_true] at h
  rcases h with h | h
  · refine .inl fun d hd => ?_
    have := List.all_eq_true.mp h d hd
    split at this
    · exact ⟨_, _, rfl⟩
    · cases this
  · refine .inr fun d hd => ?_
    have := List.all_eq_true.mp h d hd
    split at this
    · cases this
    · cases this
    · rename_i h1 h2; exact ⟨h1, h2⟩
section
variable {X : Cx} {pins : List (Addr × Obj)} {σ : Sg} {H P : Hp} {s : Shared}
/-- a value that stands for a persistent datum -/
def Val (X : Cx) (P : Hp) (u : Value) (d : D) : Prop := ∃ x, RelV x u ∧ Rep X.bas P x d
theorem each_of : ∀ {vs : List V} {us : List Value} {ds : List D}, Vals vs us → RepL X.bas P vs ds → PySem.W.EachIs (Val X P) us ds
  | _, _, _, .nil, .nil => .nil
  | _, _, _, .cons a t, .cons b r => .cons ⟨_, a, b⟩ (each_of t r)
theorem of_each : ∀ {us : List Value} {ds : List D}, PySem.W.EachIs (Val X P) us ds → ∃ vs, Vals vs us ∧ RepL X.bas P vs ds
  | _, _, .nil => ⟨[], .nil, .nil⟩
  | _, _, .cons ⟨x, a, b⟩ t => by
    obtain ⟨vs, h1, h2⟩ := of_each t
    exact ⟨x :: vs, .cons a h1, .cons b h2⟩
theorem each_reads (I : Inv X pins σ H s) (sb : Sub P H) : ∀ {us : List Value} {ds : List D}, PySem.W.EachIs (Val X P) us ds → (∀ d ∈ ds, d.plain = true) → PySem.W.EachIs (fun u d => ∃ as, Reads s.heap u d as) us ds
  | _, _, .nil, _ => .nil
  | _, _, .cons ⟨x, a, b⟩ t, h => .cons (DR.reads rfl I sb (.inl b) (h _ List.mem_cons_self) a) (each_reads I sb t fun d hd => h d (List.mem_cons_of_mem _ hd))
end
end DL

/-! # DL, part 23: a dict's entries as they lie; sorted and list of a dict. -/
namespace DL
open PySem PySem.Spec PyProof.Rows L2
section
variable {X : Cx} {pins : List (Addr × Obj)} {σ : Sg} {H P : Hp} {s : Shared}
/-- the entries of a dict, as they lie, stand for data -/
structure RawD (X : Cx) (P : Hp) (s : Shared) (a : Addr) (es : Array DictEntry) (ep : Nat) (m : List (D × D)) : Prop where
  hd : (a == sysModules) = false
  raw : s.heap.DictRaw a es ep
  len : es.size = m.length
  sz : es.size ≤ sizeLine
  ks : ∀ (i : Nat) (hi : i < es.size) (k v : D), m[i]? = some (k, v) → Val X P es[i].key k ∧ Val X P es[i].val v
theorem rel_key {k : Key} {u : Value} (h : keyIs k u = true) : RelV (kV k) u := by
  rcases keyIs_shape h with ⟨i, t, rfl, rfl⟩ | ⟨x, t, rfl, rfl⟩ <;> exact ⟨t, rfl⟩
theorem rep_key {K : Bas} (k : Key) : Rep K P (kV k) (keyD k) := by
  cases k with
  | inl i => exact .int i
  | inr x => exact .str x
theorem repK_at {K : Bas} : ∀ {kvs : List (Key × V)} {m : List (D × D)} {i : Nat} {k v : D}, RepK K P kvs m → m[i]? = some (k, v) → ∃ j w, kvs[i]? = some (j, w) ∧ k = keyD j ∧ Rep K P w v
  | _, _, 0, _, _, .cons a t, h => by cases h; exact ⟨_, _, rfl, rfl, a⟩
  | _ :: _, _ :: _, i + 1, _, _, .cons a t, h => repK_at (i := i) t (by simpa using h)
  | _, _, i, _, _, .nil, h => by simp at h
theorem repT_at {K : Bas} {xs : List Ent} : ∀ {m : List (D × D)} {i : Nat} {k v : D}, RepT K P xs m → m[i]? = some (k, v) → ∃ j b w, xs[i]? = some (j, b, w) ∧ k = .tuple (j.map keyD) ∧ SqT K.K P b (j.map kV) ∧ Rep K P w v := by
  induction xs with
  | nil => intro m i k v r h; cases r; simp at h
  | cons x xs ih =>
    intro m i k v r h
    cases r with
    | cons z a t =>
      cases i with
      | zero => rw [List.getElem?_cons_zero] at h; cases h; exact ⟨_, _, _, rfl, rfl, z, a⟩
      | succ i => rw [List.getElem?_cons_succ] at h ⊢; exact ih t h
theorem paired_at {α β : Type} {R : α → β → Prop} : ∀ {xs : List α} {ys : List β} {i : Nat} {x : α}, Paired R xs ys → xs[i]? = some x → ∃ y, ys[i]? = some y ∧ R x y
  | _, _, 0, _, .cons a t, h => by cases h; exact ⟨_, rfl, a⟩
  | _ :: _, _ :: _, i + 1, _, .cons a t, h => paired_at (i := i) t (by simpa using h)
  | _, _, i, _, .nil, h => by simp at h
theorem repL_keys2 {K : Bas} : ∀ ks : List Key, RepL K P (ks.map kV) (ks.map keyD)
  | [] => .nil
  | k :: ks => .cons (rep_key k) (repL_keys2 ks)
theorem raw_of (I : Inv X pins σ H s) (sb : Sub P H) {v : V} {m : List (D × D)} (h : DR X.bas P H v (.dict m)) : ∃ a es ep, v = .ref a ∧ RawD X P s a es ep m := by
  obtain ⟨a, rfl, ⟨kvs, e, r⟩ | ⟨xs, e, _, r⟩⟩ := h.dict sb
  · obtain ⟨z, lo, vs, rel, dd⟩ := dk_rd I.hok e
    obtain ⟨es, ep, h1, h2, h3⟩ := dd.raw
    have hl : kvs.length = vs.length := rel.length
    refine ⟨a, es, ep, rfl, lo, h1, by rw [h2, ← hl, r.length], by rw [h2, ← hl]; exact z, fun i hi k w hm => ?_⟩
    obtain ⟨j, w', e1, rfl, e3⟩ := repK_at r hm
    obtain ⟨⟨j2, u⟩, e4, e5⟩ := paired_at (show Paired _ kvs vs from rel) e1
    obtain ⟨e6, e7⟩ := h3 i hi j2 u e4
    obtain ⟨e8, e9⟩ := e5
    dsimp only at e8 e9
    subst e8
    exact ⟨⟨_, rel_key e6, rep_key _⟩, ⟨_, by rw [e7]; exact e9, e3⟩⟩
  · obtain ⟨z, lo, ys, rel, dd⟩ := td_of I sb e r
    obtain ⟨es, ep, h1, h2, h3⟩ := dd.raw
    have hl : xs.length = ys.length := Paired.length rel
    refine ⟨a, es, ep, rfl, lo, h1, by rw [h2, ← hl, r.length], by rw [h2, ← hl]; exact z, fun i hi k w hm => ?_⟩
    obtain ⟨j, b, w', e1, rfl, e2, e3⟩ := repT_at r hm
    obtain ⟨⟨j2, b2, u⟩, e4, e5, e6, e7⟩ := paired_at rel e1
    obtain ⟨y, f1, f2, f3, _⟩ := h3 i hi
    rw [e4] at f1
    cases f1
    dsimp only at e5 e6 e7 f2 f3
    subst e5 e6
    exact ⟨⟨.ref b, by rw [f2]; rfl, .tup e2 (repL_keys2 _)⟩, ⟨_, by rw [f3]; exact e7, e3⟩⟩
/-- what a walk over a dict's keys gathers -/
theorem RawD.gather {a : Addr} {es : Array DictEntry} {ep : Nat} {m : List (D × D)} (R : RawD X P s a es ep m) {acc : Array Value} (h : ItemsOf (fun i v => ∃ hi : i < es.size, v = es[i].key) acc es.size) :
    PySem.W.EachIs (Val X P) acc.toList (m.map (·.1)) := by
  have key : ∀ (us : List Value) (j : Nat) (ds : List D), us.length = ds.length → (∀ (i : Nat) (u : Value) (d : D), us[i]? = some u → ds[i]? = some d → Val X P u d) → PySem.W.EachIs (Val X P) us ds := by
    intro us
    induction us with
    | nil => intro j ds hl _; cases ds with
      | nil => exact .nil
      | cons _ _ => cases hl
    | cons u us ih =>
      intro j ds hl h
      cases ds with
      | nil => cases hl
      | cons d ds => exact .cons (h 0 u d rfl rfl) (ih (j + 1) ds (by simpa using hl) fun i u d h1 h2 => h (i + 1) u d (by simpa using h1) (by simpa using h2))
  refine key _ 0 _ (by rw [Array.length_toList, h.1, R.len, List.length_map]) fun i u d h1 h2 => ?_
  obtain ⟨hi, rfl⟩ := h.2 i u (by rw [← Array.getElem?_toList]; exact h1)
  rw [List.getElem?_map] at h2
  obtain ⟨⟨k, v⟩, h3, rfl⟩ := Option.map_eq_some_iff.mp h2
  exact (R.ks i hi k v h3).1
theorem sort_dict (hc : X.calm = true) (hu : X.A.units + 64 < cLine) {A : Around} (hA : A = X.A) {a : Addr} {es : Array DictEntry} {ep : Nat} {m : List (D × D)} {E : Value → Shared → Prop} {Q : Value → Shared → Prop} (I : Inv X pins σ H s) (sb : Sub P H) (R : RawD X P s a es ep m)
    (h0 : sortOk (m.map (·.1)) = true)
    (q : ∀ (b : Addr) (ws : List V) (s' : Shared), H b = none → RepL X.bas P ws (sortL (m.map (·.1))) → Inv X pins σ (upd H b (.lst ws)) s' → Q (.ref b) s') :
    wpAny (model X.prog X.w) A (call (.builtin "sorted") [.ref a]) Q E s := by
  subst hA
  unfold sortOk at h0
  rw [Bool.and_eq_true, Bool.and_eq_true, Bool.and_eq_true] at h0
  obtain ⟨⟨⟨c1, c2⟩, c3⟩, c4⟩ := h0
  have c3 := List.all_eq_true.mp c3
  refine Calls.call_function_entry PyProof.Rows.kind_sorted PyProof.Rows.plain_sorted PyProof.Rows.entry_sorted (PyProof.Rows.args_sorted1 _) ?_
  unfold Builtin.«sorted»
  refine wpAny_bind (m := checkCount "sorted" 1 1 _) (wpAny_pure ?_)
  refine wpAny_bind (PySem.W.kdu_collect (A := X.A.in1) (KdlSrc.rawDict (es := es) (ep := ep) R.hd) (I.ok.hd hc) R.raw R.sz fun h' tk acc hk hacc => ?_)
  have each := R.gather hacc
  have hlen := each.length
  have hl : acc.toList.length ≤ sizeLine := by rw [Array.length_toList, hacc.1]; exact R.sz
  have I1 : Inv X pins σ H { s with heap := h', toks := tk } := I.kept hk
  have er0 := each_reads I sb each fun d hd => sm_plain (c3 d hd)
  refine wpAny_bind (wpAny_newList ?_ hl)
  have hoL : (h'.push (seqObj "list" acc.toList.toArray 0)).get? h'.objs.size = some (seqObj "list" acc.toList.toArray 0) := Heap.get?_push_size _ rfl
  show wpAny _ _ _ _ _ { s with heap := h'.push (seqObj "list" acc.toList.toArray 0), toks := tk }
  have er : PySem.W.EachIs (fun u d => ∃ as, Reads (PySem.W.sortingHeap (h'.push (seqObj "list" acc.toList.toArray 0)) h'.objs.size acc.toList) u d as) acc.toList (m.map (·.1)) :=
    er0.mono fun _ _ ⟨as, r⟩ => ⟨as, PyProof.Rows.Reads.keeps (fun b o e => by
      have hb : b < h'.objs.size := Heap.lt_size (hk b o e)
      exact PySem.W.sortingHeap_old (Nat.ne_of_lt hb) (Heap.get?_push_of_some _ (hk b o e))) r⟩
  have er' : PySem.W.EachIs (fun u d => ∃ as, Reads (PySem.W.sortingHeap (h'.push (seqObj "list" acc.toList.toArray 0)) h'.objs.size acc.toList) u (id d) as) acc.toList (m.map (·.1)) := er
  have hal : PySem.W.AllAlike ((m.map (·.1)).map id) := by rw [List.map_id]; exact allAlike_of c1
  have hso : PySem.W.Sortable ((m.map (·.1)).map id) := by rw [List.map_id]; exact sortable_of c2
  refine wpAny_bind (wpAny_holding (wpAny_call_entry PyProof.Rows.slot_list_sort ⟨_, hoL, rfl⟩ PyProof.Rows.entry_list_sort
    (PySem.W.list_sort_vals (κ := PySem.W.dataKind _ ((m.map (·.1)).map id)) (s := { s with heap := h'.push (seqObj "list" acc.toList.toArray 0), toks := tk }) hoL (PySem.W.SortsAt.data (PySem.W.each_map (R := fun v d => ∃ as, Reads _ v d as) id er') hal hso (PySem.W.bound_map fun d hd => by have := sm_depth (c3 d hd); show X.A.units + 2 + d.depth < cLine; omega)) hl ⟨_, rfl, ?_⟩)
    (PyProof.Rows.args_list_sort _)))
  have so := PySem.W.sortVals_data false each er' hal
  obtain ⟨ws, q1, q2⟩ := of_each so
  obtain ⟨e', he'⟩ := PyProof.Rows.sortedHeap_at (vs := acc.toList) (out := (PySem.W.sortVals (PySem.W.dataKind (PySem.W.sortingHeap (h'.push (seqObj "list" acc.toList.toArray 0)) h'.objs.size acc.toList) ((m.map (·.1)).map id)) false acc.toList acc.toList).toArray) hoL
  refine wpAny_pure ⟨_, rfl, q h'.objs.size ws _ (I1.hok.fresh (Nat.le_refl _)) q2 (I1.laid (t' := tk) (fun b u e => ?_) (Nat.le_refl _)
    (show ObjOk X.prog X.w _ _ _ (.lst ws) from ⟨by rw [q1.length, PySem.W.sortVals_length false rfl]; exact hl, _, e', q1, he'⟩))⟩
  have hb : b < h'.objs.size := Heap.lt_size e
  rw [PyProof.Rows.sortedHeap_old (Nat.ne_of_lt hb) (by rw [size_push']; exact Nat.lt_succ_of_lt hb)]
  exact Heap.get?_push_of_some _ e
theorem call_sortDD (hc : X.calm = true) (hu : X.A.units + 64 < cLine) : CallR X (.builtin "sorted") (cG X.bas sortD) := by
  intro pins s σ H xs us Q I rx ⟨P, ds, sb, hx, ho⟩
  unfold sortD at ho
  split at ho
  · rename_i ds
    obtain ⟨v, rfl, hv⟩ := drs1 hx
    obtain ⟨a, vs, rfl, e, r⟩ := hv.list sb
    obtain ⟨u, rfl, ru⟩ := vals1 rx
    cases ru
    obtain ⟨hc, ho⟩ := if_some ho
    unfold sortOk at hc
    rw [Bool.and_eq_true, Bool.and_eq_true, Bool.and_eq_true] at hc
    obtain ⟨⟨⟨c1, c2⟩, c3⟩, c4⟩ := hc
    have c3 := List.all_eq_true.mp c3
    have c4 := of_decide_eq_true c4
    obtain ⟨its, rv, p, _⟩ := I.list (.inl (.inl e))
    have each := each_of (X := X) rv r
    have er := each_reads I sb each fun d hd => sm_plain (c3 d hd)
    refine PySem.W.sorted_data (enc := id) (R := Val X P) p.isList each er (by rw [List.map_id]; exact allAlike_of c1) (by rw [List.map_id]; exact sortable_of c2) (by rw [← line_eq]; exact c4) (fun d hd => by have := sm_depth (c3 d hd); show X.A.units + 2 + d.depth < cLine; omega) fun out hlen ho2 => ?_
    obtain ⟨ws, q1, q2⟩ := of_each ho2
    obtain ⟨ep, he'⟩ := PyProof.Rows.sortedAll_at s.heap its out.toArray
    have hl : ws.length ≤ sizeLine := by rw [q1.length, hlen, ← line_eq]; exact c4
    have nn : H (s.heap.objs.size + 1) = none := I.hok.fresh (Nat.le_succ _)
    exact ⟨.ref _, upd H (s.heap.objs.size + 1) (.lst ws), I.laid (t' := s.toks) (fun _ _ => PyProof.Rows.sortedAll_old) (Nat.le_succ _) ⟨hl, out, ep, q1, he'⟩, rfl, ho.newL sb q2 _ nn⟩
  · rename_i m
    obtain ⟨v, rfl, hv⟩ := drs1 hx
    obtain ⟨a, es, ep, rfl, R⟩ := raw_of I sb hv
    obtain ⟨u, rfl, ru⟩ := vals1 rx
    cases ru
    obtain ⟨hk, ho⟩ := if_some ho
    refine sort_dict hc hu rfl I sb R hk fun b ws s' nb q2 I' => ?_
    exact ⟨.ref b, _, I', rfl, ho.newL sb q2 _ nb⟩
  · exact ho.elim
theorem call_listDD (hc : X.calm = true) : CallR X (.type "list") (cG X.bas listD) := by
  intro pins s σ H xs us Q I rx ⟨P, ds, sb, hx, ho⟩
  unfold listD at ho
  split at ho
  · obtain ⟨v, rfl, hv⟩ := drs1 hx
    obtain ⟨a, vs, rfl, e, r⟩ := hv.list sb
    exact call_list_of pins s σ H _ us Q I rx ⟨a, vs, rfl, .inl (.inl (.inl e)), ho.newL sb r⟩
  · obtain ⟨v, rfl, hv⟩ := drs1 hx
    obtain ⟨a, vs, rfl, _, e, r⟩ := hv.tuple sb
    exact call_list_of pins s σ H _ us Q I rx ⟨a, vs, rfl, .inr e, ho.newL sb r⟩
  · obtain ⟨v, rfl, hv⟩ := drs1 hx
    obtain ⟨a, es, ep, rfl, R⟩ := raw_of I sb hv
    obtain ⟨u, rfl, ru⟩ := vals1 rx
    cases ru
    refine PySem.W.kdl_call (KdlSrc.rawDict (es := es) (ep := ep) R.hd) (I.ok.hd hc) R.raw R.sz fun h' tk acc c' hk hD hacc => ?_
    obtain ⟨ws, q1, q2⟩ := of_each (R.gather hacc)
    have nn : H s.heap.objs.size = none := I.hok.fresh (Nat.le_refl _)
    exact ⟨.ref _, upd H s.heap.objs.size (.lst ws), I.laid (t' := tk) hk (Nat.le_refl _) (show ObjOk X.prog X.w _ _ _ (.lst ws) from ⟨by rw [q1.length, Array.length_toList, hacc.1]; exact R.sz, _, c', q1, by rw [Array.toArray_toList]; exact hD⟩), rfl, ho.newL sb q2 _ nn⟩
  · exact ho.elim
end
end DL

/-! # DL, part 26: max, min of a list; dicts: get, update. -/
namespace DL
open PySem PySem.Spec PyProof.Rows L2

/-! ### max, min of a list of ints -/
def maxI : List Int → Int
  | [] => 0
  | [x] => x
  | x :: xs => if maxI xs > x then maxI xs else x
def minI : List Int → Int
  | [] => 0
  | [x] => x
  | x :: xs => if minI xs < x then minI xs else x
theorem maxI_mem : ∀ {xs : List Int}, xs ≠ [] → maxI xs ∈ xs
  | [], h => absurd rfl h
  | [x], _ => List.mem_singleton.mpr rfl
  | x :: y :: xs, _ => by
    have := maxI_mem (xs := y :: xs) (by simp)
    unfold maxI
    split
    · exact List.mem_cons_of_mem _ this
    · exact List.mem_cons_self
theorem maxI_ge : ∀ {xs : List Int} {y : Int}, y ∈ xs → y ≤ maxI xs
  | [], _, h => by cases h
  | [x], _, h => by rw [List.mem_singleton.mp h]; exact Int.le_refl _
  | x :: z :: xs, y, h => by
    unfold maxI
    rcases List.mem_cons.mp h with rfl | h
    · split <;> omega
    · have := maxI_ge h
      split <;> omega
theorem minI_mem : ∀ {xs : List Int}, xs ≠ [] → minI xs ∈ xs
  | [], h => absurd rfl h
  | [x], _ => List.mem_singleton.mpr rfl
  | x :: y :: xs, _ => by
    have := minI_mem (xs := y :: xs) (by simp)
    unfold minI
    split
    · exact List.mem_cons_of_mem _ this
    · exact List.mem_cons_self
theorem minI_le : ∀ {xs : List Int} {y : Int}, y ∈ xs → minI xs ≤ y
  | [], _, h => by cases h
  | [x], _, h => by rw [List.mem_singleton.mp h]; exact Int.le_refl _
  | x :: z :: xs, y, h => by
    unfold minI
    rcases List.mem_cons.mp h with rfl | h
    · split <;> omega
    · have := minI_le h
      split <;> omega
def max1D : List D → Option (Bool × D)
  | [.list ds] => match intsO ds with
    | some (x :: xs) => some (false, .int (maxI (x :: xs)))
    | _ => none
  | _ => none
def min1D : List D → Option (Bool × D)
  | [.list ds] => match intsO ds with
    | some (x :: xs) => some (false, .int (minI (x :: xs)))
    | _ => none
  | _ => none
section
variable {X : Cx}
theorem call_max1DD (hc : X.calm = true) : CallR X (.builtin "max") (cG X.bas max1D) := CallR.from (cr_max hc) fun xs H Q P ds sb hx ho => by
  unfold max1D at ho
  split at ho
  · rename_i ds
    obtain ⟨v, rfl, hv⟩ := drs1 hx
    obtain ⟨a, vs, rfl, e, r⟩ := hv.list sb
    split at ho
    · rename_i x xs eb
      rw [of_ints eb] at r
      refine ⟨a, x :: xs, rfl, by rw [← repL_int r]; exact .inl (.inl e), Nat.succ_pos _, fun m hm hle => ?_⟩
      have : m = maxI (x :: xs) := Int.le_antisymm (maxI_ge hm) (hle _ (maxI_mem (by simp)))
      rw [this]
      exact ho.atom sb (.int _)
    · exact ho.elim
  · exact ho.elim
theorem call_min1DD (hc : X.calm = true) : CallR X (.builtin "min") (cG X.bas min1D) := CallR.from (cr_min hc) fun xs H Q P ds sb hx ho => by
  unfold min1D at ho
  split at ho
  · rename_i ds
    obtain ⟨v, rfl, hv⟩ := drs1 hx
    obtain ⟨a, vs, rfl, e, r⟩ := hv.list sb
    split at ho
    · rename_i x xs eb
      rw [of_ints eb] at r
      refine ⟨a, x :: xs, rfl, by rw [← repL_int r]; exact .inl (.inl e), Nat.succ_pos _, fun m hm hle => ?_⟩
      have : m = minI (x :: xs) := Int.le_antisymm (hle _ (minI_mem (by simp))) (minI_le hm)
      rw [this]
      exact ho.atom sb (.int _)
    · exact ho.elim
  · exact ho.elim
end
/-! ### d.get(k, x): what is read is persistent, and so is x -/
/-- the dict in a slot, its keys ints or texts -/
def dkAt (δ : DEnv) (i : Nat) : Option (List (D × D)) := match δ[i]? with
  | some (some (_, .dict m)) => if keyFor m (.int 0) = true then some m else none
  | _ => none
def getE (i : Nat) (r : R) (x : D) : M R := fun δ => match dkAt δ i, dat δ r with
  | some m, some k => match atomKey k with
    | some _ => .ok (.val ((dfind m k).getD x)) δ
    | none => .bad
  | _, _ => .bad
def getM (i : Nat) (fk fd : M R) : M R := fun δ => match dkAt δ i with
  | some _ => bindM fk (fun r => bindM (persM fd) fun x => getE i r x) δ
  | none => .bad
section
variable {K : Bas} {mg : Str → Option Value} {W : WX} {σ : Sg} {δ : DEnv} {P H : Hp}
theorem dk_slot {i : Nat} {m : List (D × D)} (S : SR K P H σ δ) (h : dkAt δ i = some m) : ∃ a kvs, σ[i]? = some (some (.ref a)) ∧ Rd H a (.dK kvs) ∧ RepK K P kvs m := by
  unfold dkAt at h
  split at h
  · rename_i kd m' e
    split at h
    · rename_i c
      cases h
      obtain ⟨v, ev, sl⟩ := S.sl i kd _ e
      have dr : DR K P H v (.dict m) := by
        cases kd with
        | pers => exact .inl sl
        | own => obtain ⟨a, rfl, _, o⟩ := sl; exact .inr ⟨a, rfl, .inl o⟩
        | bor => obtain ⟨a, rfl, _, o⟩ := sl; exact .inr ⟨a, rfl, .inl o⟩
        | lck => obtain ⟨a, rfl, _, o⟩ := sl; exact .inr ⟨a, rfl, .inr o⟩
      obtain ⟨a, rfl, ⟨kvs, e1, r⟩ | ⟨xs, _, n, r⟩⟩ := dr.dict S.ph
      · exact ⟨a, kvs, ev, e1, r⟩
      · exact (keyFor_dT r n c).elim
    · cases h
  · cases h
end
section
variable {X : Cx} {W : WX} {e f : Expr} {fk fd : M R}
theorem de_get {x : Str} {i : Nat} {p apos cpos : Pos} (hu : X.A.units + 1 < cLine) (hN : X.N[i]? = some x) (hv : Vis X.env.scope x) (hd : (x == ("__debug__" : Str)) = false) (hcd : (x == ("__classdict__" : Str)) = false)
    (he : PE X e (eD X.bas X.mg W fk)) (hf : PE X f (eD X.bas X.mg W fd)) (m2 : M2 X (.Name x p) "get" apos e f cpos) :
    PE X (.Call (.Attribute (.Name x p) "get" apos) [e, f] [] cpos) (eD X.bas X.mg W (getM i fk fd)) :=
  PE.mono (pe_dget2 hu (pe_var hN hv hd hcd) he (de_pers hf) m2) fun σ H Q ⟨P, δ, S, h⟩ => by
    unfold getM at h
    cases em : dkAt δ i with
    | none => rw [em] at h; exact h.elim
    | some m =>
      rw [em] at h
      obtain ⟨a, kvs, e1, e2, r⟩ := dk_slot S em
      refine ⟨_, e1, a, rfl, .inl ⟨kvs, e2⟩, P, δ, S, ?_⟩
      refine gK.bind rE_up h fun r1 δ1 v H1 P1 ek S1 s1 rr1 q => ?_
      refine ⟨P1, δ1, S1, gK.bind rE_up q fun xd δ2 w H2 P2 ef S2 s2 rr2 q => ?_⟩
      unfold getE at q
      cases em2 : dkAt δ2 i with
      | none => rw [em2] at q; exact q.elim
      | some m' =>
        rw [em2] at q
        cases ed : dat δ2 r1 with
        | none => rw [ed] at q; exact q.elim
        | some k =>
          rw [ed] at q
          dsimp only at q
          cases ea : atomKey k with
          | none => rw [ea] at q; exact q.elim
          | some kk =>
            rw [ea] at q
            dsimp only at q
            obtain ⟨a', kvs', e1', e2', r'⟩ := dk_slot S2 em2
            rw [e1] at e1'; cases e1'
            have hk := of_atomKey ea
            have dr := RRep.dr rr1 s2 S2 ed
            have ev : v = kV kk := by
              rw [hk] at dr
              cases kk with
              | inl j => exact dr.int
              | inr z => exact dr.str
            refine ⟨valV kvs' kk, .inl ⟨kvs', kk, e2', ev, rfl⟩, ?_⟩
            refine q _ _ _ S2 (Stp.refl _ _ _ _) ?_
            show Rep X.bas P2 _ _
            rw [hk]
            rcases repK_find (k := kk) r' with ⟨v1, d1, g1, g2, g3⟩ | ⟨g1, g2⟩
            · rw [g1, g2]; exact g3
            · rw [g1, g2]; exact rr2
end
/-! ### d.update(list of pairs) -/
/-- pairs, the first an int or a text -/
def pairsO : List D → Option (List (D × D))
  | [] => some []
  | .tuple [k, v] :: ds => match atomKey k, pairsO ds with
    | some _, some ps => some ((k, v) :: ps)
    | _, _ => none
  | _ => none
def dmerge (m ps : List (D × D)) : List (D × D) := ps.foldl (fun m p => dput m p.1 p.2) m
def updD (c d : D) : Option (D × D) := match c, d with
  | .dict m, .list ds => match pairsO ds with
    | some ps => if keyFor m (.int 0) = true ∧ m.length + ps.length ≤ line then some (.dict (dmerge m ps), .none) else none
    | none => none
  | _, _ => none
section
variable {X : Cx} {pins : List (Addr × Obj)} {σ : Sg} {H P : Hp} {s : Shared}
theorem pairs_rep (sb : Sub P H) : ∀ {ds : List D} {vs : List V} {ps : List (D × D)}, RepL X.bas P vs ds → pairsO ds = some ps →
    ∃ (as : List Addr) (kvs : List (Key × V)), vs = as.map V.ref ∧ RepK X.bas P kvs ps ∧ Paired (fun p kv => SqT X.K H p [kV kv.1, kv.2]) as kvs := by
  intro ds
  induction ds with
  | nil => intro vs ps r h; cases r; cases h; exact ⟨[], [], rfl, .nil, .nil⟩
  | cons d ds ih =>
    intro vs ps r h
    cases r with
    | cons a t =>
      unfold pairsO at h
      split at h
      · rename_i k v ds' e
        cases e
      · rename_i k v ds' e
        cases e
        cases ea : atomKey k with
        | none => rw [ea] at h; cases h
        | some kk =>
          rw [ea] at h
          cases ep : pairsO ds with
          | none => rw [ep] at h; cases h
          | some ps' =>
            rw [ep] at h
            cases h
            obtain ⟨as, kvs, e1, e2, e3⟩ := ih t ep
            cases a with
            | tup q r =>
              cases r with
              | cons r1 r2 =>
                cases r2 with
                | cons r2 r3 =>
                  cases r3
                  have hk := of_atomKey ea
                  subst hk
                  rename_i b x1 x2
                  have ev : x1 = kV kk := by
                    cases kk with
                    | inl j => cases r1; rfl
                    | inr z => cases r1; rfl
                  subst ev
                  refine ⟨_ :: as, (kk, x2) :: kvs, by rw [List.map_cons, e1], .cons r2 e2, .cons (sqT_sub sb q) e3⟩
      · cases h
theorem choose_list {α β : Type} : ∀ {xs : List α} {R : Nat → α → β → Prop}, (∀ j q, xs[j]? = some q → ∃ y, R j q y) → ∃ ys : List β, ys.length = xs.length ∧ ∀ j q, xs[j]? = some q → ∃ y, ys[j]? = some y ∧ R j q y
  | [], _, _ => ⟨[], rfl, fun j q h => by simp at h⟩
  | x :: xs, R, h => by
    obtain ⟨y, hy⟩ := h 0 x rfl
    obtain ⟨ys, h1, h2⟩ := choose_list (xs := xs) (R := fun j => R (j + 1)) fun j q e => h (j + 1) q (by simpa using e)
    refine ⟨y :: ys, by simp [h1], fun j q e => ?_⟩
    cases j with
    | zero => cases e; exact ⟨y, rfl, hy⟩
    | succ j => obtain ⟨z, e1, e2⟩ := h2 j q (by simpa using e); exact ⟨z, by simpa using e1, e2⟩
theorem repK_merge {K : Bas} : ∀ {kvs2 : List (Key × V)} {ps : List (D × D)} {kvs : List (Key × V)} {m : List (D × D)}, RepK K P kvs2 ps → RepK K P kvs m → RepK K P (mergeK kvs kvs2) (dmerge m ps)
  | _, _, _, _, .nil, r => r
  | _, _, _, _, .cons a t, r => by
    show RepK K P (mergeK (putK _ _ _) _) (dmerge (dput _ _ _) _)
    exact repK_merge t (repK_put r a)
theorem updD_some {c d c' r : D} (h : updD c d = some (c', r)) : ∃ m ds ps, c = .dict m ∧ d = .list ds ∧ pairsO ds = some ps ∧ (keyFor m (.int 0) = true ∧ m.length + ps.length ≤ line) ∧ c' = .dict (dmerge m ps) ∧ r = .none := by
  unfold updD at h
  split at h
  · rename_i m ds
    split at h
    · rename_i ps ep
      by_cases hk : keyFor m (.int 0) = true ∧ m.length + ps.length ≤ line
      · rw [if_pos hk] at h
        cases h
        exact ⟨m, ds, ps, rfl, rfl, ep, hk, rfl, rfl⟩
      · rw [if_neg hk] at h; cases h
    · cases h
  · cases h
theorem mt_updD (hc : X.calm = true) : MtR X "dict.update" (mG1 X.bas updD) := fun pins s σ H x xs v us Q I r rs ⟨P, c, d, w, a, e1, e2, sb, pa, oc, rd, h⟩ => by
  subst e1 e2
  obtain ⟨u, rfl, ru⟩ := vals1 rs
  obtain rfl : v = Value.ref a := r
  cases eu : updD c d with
  | none => rw [eu] at h; exact h.elim
  | some pr =>
        obtain ⟨c', rr⟩ := pr
        rw [eu] at h
        obtain ⟨m, ds, ps, rfl, rfl, ep, hk, rfl, rfl⟩ := updD_some eu
        dsimp only at h
        obtain ⟨kvs, e, rk⟩ : ∃ kvs, H a = some (.dK kvs) ∧ RepK X.bas P kvs m := by
          cases oc with
          | dK e r => exact ⟨_, e, r⟩
          | dT e n r => exact (keyFor_dT r n hk.1).elim
        obtain ⟨b, vs, ew, pb, rb⟩ : ∃ b vs, w = .ref b ∧ P b = some (.lst vs) ∧ RepL X.bas P vs ds := by
          cases rd with
          | lst p r => exact ⟨_, _, rfl, p, r⟩
        subst ew
        · obtain rfl : u = Value.ref b := ru
          obtain ⟨as, kvs2, ev, rk2, hp⟩ := pairs_rep sb rb ep
          obtain ⟨prs, rel2, hl2, hpr⟩ := pairs_of I hp
          obtain ⟨its, rv, pl, hz⟩ := I.list (.inl (.inl (sb _ _ pb)))
          subst ev
          have ei := refs_at rv
          subst ei
          obtain ⟨o, n, ho, hcl, hdd, hdat⟩ := pl
          obtain ⟨z, hd, vs0, rel0, dd⟩ := dk_of I.hok e
          obtain ⟨psv, hl3, hps⟩ := choose_list (R := fun j (q : Key × Value) (y : Value × Value) => ∃ b, as[j]? = some b ∧ y.2 = q.2 ∧ IsTup s.heap b #[y.1, y.2] ∧ keyIs q.1 y.1 = true) fun j q hq => by
            obtain ⟨b, u, h1, h2, h3⟩ := hpr j q hq
            exact ⟨(u, q.2), b, h1, rfl, h2, h3⟩
          have ln1 : kvs2.length = prs.length := Paired.length rel2
          have ln2 : kvs2.length = ps.length := rk2.length
          have ln3 : kvs.length = m.length := rk.length
          have ln4 : kvs.length = vs0.length := rel0.length
          obtain ⟨oa, _, _, hoa, hxa, _⟩ := id dd
          have tupNe : ∀ b vs, IsTup s.heap b vs → b ≠ a := fun b vs ⟨ob, h1, h2, _⟩ z => by
            subst z
            rw [hoa] at h1; cases h1
            rw [hxa.1] at h2; exact absurd h2 (by simp)
          have lstNe : b ≠ a := fun z => by
            subst z
            rw [hoa] at ho; cases ho
            rw [hxa.1] at hcl; exact absurd hcl (by simp)
          have at2 : ∀ j k v, psv[j]? = some (k, v) → ∃ q : Key × Value, prs[j]? = some q ∧ ∃ b, as[j]? = some b ∧ v = q.2 ∧ IsTup s.heap b #[k, v] ∧ keyIs q.1 k = true := fun j k v hj => by
            have hlt : j < prs.length := by rw [← hl3]; exact (List.getElem?_eq_some_iff.mp hj).1
            have hq : prs[j]? = some prs[j] := List.getElem?_eq_getElem hlt
            obtain ⟨y, h1, h2⟩ := hps j _ hq
            rw [hj] at h1; cases h1
            exact ⟨_, hq, h2⟩
          refine PySem.call_update_pairs (knd := mixKind X.prog X.w) (A := X.A) (acc := vs0) (kvs := prs) (PairArg.list b ((as.map Value.ref).toArray) (fun j => as.getD j 0) psv) (I.ok.hd hc) ⟨⟨o, n, ho, hcl, hdd, by simpa using hdat⟩, by simp; omega, fun j k v hj => ?_⟩ ?_ ⟨by omega, fun j k v hj => ?_⟩ dd (by rw [← line_eq]; omega) fun h' tk hd' k => ?_
          · obtain ⟨q, _, b', h1, _, h3, _⟩ := at2 j k v hj
            refine ⟨by simp [h1], .inl ?_⟩
            have : as.getD j 0 = b' := by simp [h1]
            show s.heap.IsTuple (as.getD j 0) #[k, v]
            rw [this]
            exact h3
          · intro hm
            rcases List.mem_cons.mp hm with hm | hm
            · exact lstNe hm.symm
            · obtain ⟨j, hj, ej⟩ := List.mem_map.mp hm
              have hlt := List.mem_range.mp hj
              have hq : psv[j]? = some psv[j] := List.getElem?_eq_getElem hlt
              obtain ⟨q, _, b', h1, _, h3, _⟩ := at2 j _ _ hq
              have : as.getD j 0 = b' := by simp [h1]
              have ej : as.getD j 0 = a := ej
              rw [this] at ej
              exact tupNe _ _ h3 ej
          · obtain ⟨q, h0, b', h1, h2, h3, h4⟩ := at2 j k v hj
            exact ⟨q.1, by rw [h0, h2], h4⟩
          · have rm := repK_merge rk2 rk
            have hlen : (mergeK kvs kvs2).length ≤ sizeLine := by
              have := length_mergeK kvs2 kvs
              rw [← line_eq]; omega
            have he : ∃ q, h'.get? a = some q := let ⟨q, _, _, hq, _⟩ := hd'; ⟨q, hq⟩
            refine ⟨.non, upd H a (.dK (mergeK kvs kvs2)), ?_, rfl, h _ .non (.dK upd_same rm) .non⟩
            exact I.write (x := a) (e := a) (t' := tk) (by rw [e]; exact True.intro) (.inl rfl) (fun b q hb z => k b q hb (by simp) z) he (dk_new hlen hd (rel2.merge rel0) hd')
/-! ### d.pop(k), d.pop(k, None) -/
def popkD (c k : D) : Option (D × D) := match c with
  | .dict m => match atomKey k with
    | some _ => if keyFor m (.int 0) = true then (dfind m k).map fun v => (.dict (ddrop m k), v) else none
    | none => none
  | _ => none
def popnD (c k : D) : Option (D × D) := match c with
  | .dict m => match atomKey k with
    | some _ => if keyFor m (.int 0) = true then some (match dfind m k with | some v => (.dict (ddrop m k), v) | none => (.dict m, .none)) else none
    | none => none
  | _ => none
theorem popkD_some {c d c' r : D} (h : popkD c d = some (c', r)) : ∃ m kk v, c = .dict m ∧ atomKey d = some kk ∧ keyFor m (.int 0) = true ∧ dfind m d = some v ∧ c' = .dict (ddrop m d) ∧ r = v := by
  unfold popkD at h
  split at h
  · rename_i m
    split at h
    · rename_i kk ea
      by_cases hk : keyFor m (.int 0) = true
      · rw [if_pos hk] at h
        cases ef : dfind m d with
        | none => rw [ef] at h; cases h
        | some v => rw [ef] at h; cases h; exact ⟨m, kk, _, rfl, ea, hk, ef, rfl, rfl⟩
      · rw [if_neg hk] at h; cases h
    · cases h
  · cases h
theorem mt_popkD : MtR X "dict.pop" (mG1 X.bas popkD) := fun pins s σ H x xs v us Q I r rs ⟨P, c, d, w, a, e1, e2, sb, pa, oc, rd, h⟩ => by
  subst e1 e2
  obtain ⟨u, rfl, ru⟩ := vals1 rs
  obtain rfl : v = Value.ref a := r
  cases eu : popkD c d with
  | none => rw [eu] at h; exact h.elim
  | some pr =>
        obtain ⟨c', rr⟩ := pr
        rw [eu] at h
        obtain ⟨m, kk, v2, rfl, ea, hk, ef, rfl, rfl⟩ := popkD_some eu
        dsimp only at h
        obtain ⟨kvs, e, rk⟩ : ∃ kvs, H a = some (.dK kvs) ∧ RepK X.bas P kvs m := by
          cases oc with
          | dK e r => exact ⟨_, e, r⟩
          | dT e n r => exact (keyFor_dT r n hk).elim
        have hk' := of_atomKey ea
        subst hk'
        have ew : w = kV kk := by
          cases kk with
          | inl j => cases rd; rfl
          | inr z => cases rd; rfl
        subst ew
        rcases repK_find (k := kk) rk with ⟨v1, d1, g1, g2, g3⟩ | ⟨g1, g2⟩
        · rw [g2] at ef
          cases ef
          exact d_pop I e ru g1 (.inl rfl) fun w' s' I' rw' => ⟨v1, _, I', rw', h _ v1 (.dK upd_same (repK_drop rk)) g3⟩
        · rw [g2] at ef; cases ef
end
theorem popnD_some {c d c' r : D} (h : popnD c d = some (c', r)) : ∃ m kk, c = .dict m ∧ atomKey d = some kk ∧ keyFor m (.int 0) = true ∧ ((∃ v, dfind m d = some v ∧ c' = .dict (ddrop m d) ∧ r = v) ∨ (dfind m d = none ∧ c' = .dict m ∧ r = .none)) := by
  unfold popnD at h
  split at h
  · rename_i m
    split at h
    · rename_i kk ea
      by_cases hk : keyFor m (.int 0) = true
      · rw [if_pos hk] at h
        cases ef : dfind m d with
        | none => rw [ef] at h; cases h; exact ⟨m, kk, rfl, ea, hk, .inr ⟨ef, rfl, rfl⟩⟩
        | some v => rw [ef] at h; cases h; exact ⟨m, kk, rfl, ea, hk, .inl ⟨_, ef, rfl, rfl⟩⟩
      · rw [if_neg hk] at h; cases h
    · cases h
  · cases h
def pop2M (i : Nat) (f : M R) : M R := fun δ => match dkAt δ i with
  | some _ => m1M "dict" i popnD f δ
  | none => .bad
section
variable {X : Cx} {W : WX} {a : Expr} {fa : M R}
theorem de_pop2 {x : Str} {i j : Nat} {p p' apos cpos : Pos} (hN : X.N[i]? = some x) (hv : Vis X.env.scope x) (hd : (x == ("__debug__" : Str)) = false) (hcd : (x == ("__classdict__" : Str)) = false) (ha : PE X a (eD X.bas X.mg W fa))
    (m2 : M2 X (.Name x p) "pop" apos a (.Constant .none j p') cpos) :
    PE X (.Call (.Attribute (.Name x p) "pop" apos) [a, .Constant .none j p'] [] cpos) (eD X.bas X.mg W (pop2M i fa)) :=
  PE.mono (pe_dpop2 (pe_var hN hv hd hcd) (de_pers ha) pe_non m2) fun σ H Q ⟨P, δ, S, h⟩ => by
    unfold pop2M at h
    cases em : dkAt δ i with
    | none => rw [em] at h; exact h.elim
    | some m0 =>
      rw [em] at h
      dsimp only at h
      obtain ⟨b, kvs0, eb, ed, _⟩ := dk_slot S em
      unfold m1M at h
      by_cases hc : ownT "dict" δ i = true
      · rw [if_pos hc] at h
        refine ⟨_, eb, b, rfl, .inl ⟨_, ed⟩, P, δ, S, ?_⟩
        refine gK.bind rE_up h fun d δ1 v H1 P1 e1 S1 s1 r1 q => ?_
        obtain ⟨c1, c', r, a', eg, ea, pa', oc', fin⟩ := mutV_ok S1 q (Stp.refl _ _ _ _)
        rw [eb] at ea; cases ea
        obtain ⟨m, kk, rfl, ek, hk, ho⟩ := popnD_some eg
        obtain ⟨kvs, e, rk⟩ : ∃ kvs, H1 b = some (.dK kvs) ∧ RepK X.bas P1 kvs m := by
          cases oc' with
          | dK e r => exact ⟨_, e, r⟩
          | dT e n r => exact (keyFor_dT r n hk).elim
        have hk' := of_atomKey ek
        subst hk'
        have ev : v = kV kk := by
          cases kk with
          | inl j => cases r1; rfl
          | inr z => cases r1; rfl
        refine ⟨kvs, kk, e, ev, fun w hw => ?_, fun hw => ?_⟩
        · rcases repK_find (k := kk) rk with ⟨v1, d1, g1, g2, g3⟩ | ⟨g1, g2⟩
          · rw [g1] at hw; cases hw
            rcases ho with ⟨v2, h1, rfl, rfl⟩ | ⟨h1, _, _⟩
            · rw [g2] at h1; cases h1
              exact fin _ _ (.dK upd_same (repK_drop rk)) g3
            · rw [g2] at h1; cases h1
          · rw [g1] at hw; cases hw
        · rcases repK_find (k := kk) rk with ⟨v1, d1, g1, g2, g3⟩ | ⟨g1, g2⟩
          · rw [g1] at hw; cases hw
          · rcases ho with ⟨v2, h1, _, _⟩ | ⟨h1, rfl, rfl⟩
            · rw [g2] at h1; cases h1
            · have := fin (.dK kvs) .non (.dK upd_same rk) .non
              rw [upd_id e] at this
              exact this
      · rw [if_neg hc] at h; exact h.elim
end
end DL

/-! # DL, part 15: a text read as combinators: expressions. -/
namespace DL
open PySem PySem.Spec PyProof.Rows L2

/-! ### powers -/
def powD (d e : D) : Option (Bool × D) := match d, e with
  | .int i, .int j => if 0 ≤ j ∧ j ≤ 1000000 ∧ i.natAbs < 18446744073709551616 then some (false, .int (i ^ j.toNat)) else none
  | _, _ => none
theorem op_powDD {X : Cx} : OpR X (binaryOp .Pow) (rG X.bas powD) := op_from op_pow fun x y H Q P d e sb hx hy ho => by
  unfold powD at ho
  split at ho
  · obtain ⟨⟨h1, h2, h3⟩, ho⟩ := if_prop ho
    cases hx.int; cases hy.int
    exact ⟨_, _, rfl, rfl, ⟨h1, h2, by show _ < 2 ^ 64; omega⟩, ho.atom sb (.int _)⟩
  · exact ho.elim

/-! ### argument lists without stars -/
def nst : Expr → Bool
  | .Starred _ _ => false
  | _ => true
theorem star1 {e : Expr} {es : List Expr} {env : Env} (h : nst e = true) : starEach (e :: es) env = (false, eval e env) :: starEach es env := by
  cases e <;> first | rfl | cases h
theorem starP {pos : Pos} {env : Env} : ∀ {es : List Expr}, es.all nst = true → (backTo pos (starEach es env)).any (·.1) = false
  | [], _ => rfl
  | e :: es, h => by
    rw [List.all_cons, Bool.and_eq_true] at h
    rw [star1 h.1]
    show (false || (backTo pos (starEach es env)).any (·.1)) = false
    rw [starP h.2]; rfl

/-! ### the context of a reading -/
structure TC where
  N : List Str
  sc : Scope
  fn : Str → Bool
  tab : List (Str × Bool × FSem)
  con : List (Str × D)
  exs : List Str
  keep : List Nat
def ixOf : List Str → Str → Option Nat
  | [], _ => none
  | y :: N, x => if y == x then some 0 else (ixOf N x).map (· + 1)
theorem ixOf_at : ∀ {N : List Str} {x : Str} {i : Nat}, ixOf N x = some i → N[i]? = some x
  | y :: N, x, i, h => by
    unfold ixOf at h
    by_cases c : (y == x) = true
    · rw [if_pos c] at h; cases h
      rw [List.getElem?_cons_zero, eq_of_beq c]
    · rw [if_neg c] at h
      obtain ⟨j, e, rfl⟩ := Option.map_eq_some_iff.mp h
      rw [List.getElem?_cons_succ]
      exact ixOf_at e
def odd (x : Str) : Bool := x == ("__debug__" : Str) || x == ("__classdict__" : Str) || x == ("__name__" : Str)
def isVis (sc : Scope) (x : Str) : Bool := match sc.names.lookup x with
  | some .local => true
  | some .cell => true
  | some .free => true
  | _ => false
def isGl (sc : Scope) (x : Str) : Bool := match sc.names.lookup x with
  | some .globalImplicit => true
  | _ => false
/-- a name's slot -/
def slotO (T : TC) (x : Str) : Option Nat := if isVis T.sc x && !odd x then ixOf T.N x else none
/-- the slot of a name to be stored -/
def storeO (T : TC) (x : Str) : Option Nat := if (match T.sc.names.lookup x with
  | some .local => true
  | some .cell => T.fn x
  | _ => false) && !odd x then ixOf T.N x else none
/-- a global name -/
def glob (T : TC) (x : Str) : Bool := isGl T.sc x && !odd x
def guardO {α : Type} (b : Bool) (a : Option α) : Option α := if b = true then a else none
theorem guardO_some {α : Type} {b : Bool} {o : Option α} {a : α} (h : guardO b o = some a) : b = true ∧ o = some a := by
  unfold guardO at h
  by_cases c : b = true
  · rw [if_pos c] at h; exact ⟨c, h⟩
  · rw [if_neg c] at h; cases h
def bltNames : List Str := ["len", "abs", "min", "max", "int", "all", "any", "sum", "list", "tuple", "isinstance", "range", "zip", "enumerate", "bool", "str", "dict", "sorted", "set"]
/-- a def of the table -/
def FunOk (X : Cx) (k : Nat) (x : Str) (bor : Bool) (g : FSem) : Prop := ∃ f fd ps, X.mg x = some (.ref f) ∧ PySem.W.keepIn X.K (.ref f) = true ∧ Binds X.K fd ps [] ∧ FnOk X.prog X.w X.K X.mg X.base (L2.CX X.prog X.w) k f fd ps (spD X.bas X.mg bor g)
def ConOk (X : Cx) (x : Str) (d : D) : Prop := ∃ u v, X.mg x = some u ∧ RelV v u ∧ ∀ P, Rep X.bas P v d
structure Good (X : Cx) (W : WX) (T : TC) : Prop where
  calm : X.calm = true
  nd : X.N.Nodup
  N : X.N = T.N
  sc : X.env.scope = T.sc
  fn : ∀ x, T.fn x = true → X.fn x = true
  tk : Takes X W
  room : ∃ k, Room k X.A ∧ ∀ x bor g, T.tab.lookup x = some (bor, g) → FunOk X k x bor g
  con : ∀ x d, T.con.lookup x = some d → ConOk X x d
  blt : ∀ x ∈ bltNames, X.mg x = none
section
variable {X : Cx} {W : WX} {T : TC}
theorem Good.hu (G : Good X W T) : X.A.units + 64 < cLine := by
  obtain ⟨k, r, _⟩ := G.room
  have := r.un
  omega
theorem not_odd {x : Str} (h : (!odd x) = true) : (x == ("__debug__" : Str)) = false ∧ (x == ("__classdict__" : Str)) = false ∧ x ≠ "__name__" := by
  unfold odd at h
  rw [Bool.not_eq_true', Bool.or_eq_false_iff, Bool.or_eq_false_iff] at h
  exact ⟨h.1.1, h.1.2, fun z => by have := h.2; rw [z] at this; simp at this⟩
theorem Good.slot (G : Good X W T) {x : Str} {i : Nat} (h : slotO T x = some i) : X.N[i]? = some x ∧ Vis X.env.scope x ∧ (x == ("__debug__" : Str)) = false ∧ (x == ("__classdict__" : Str)) = false := by
  obtain ⟨h1, h2⟩ := guardO_some (show guardO (isVis T.sc x && !odd x) (ixOf T.N x) = some i from h)
  rw [Bool.and_eq_true] at h1
  refine ⟨by rw [G.N]; exact ixOf_at h2, ?_, (not_odd h1.2).1, (not_odd h1.2).2.1⟩
  have h3 := h1.1
  rw [G.sc]
  unfold isVis at h3
  unfold Vis
  split at h3
  · exact .inl (by assumption)
  · exact .inr (.inl (by assumption))
  · exact .inr (.inr (by assumption))
  · cases h3
theorem Good.store (G : Good X W T) {x : Str} {i : Nat} (h : storeO T x = some i) : X.N[i]? = some x ∧ L2.Loc X.env.scope x ∧ (X.fn x = true ∨ X.env.scope.names.lookup x = some .local) := by
  obtain ⟨h1, h2⟩ := guardO_some (show guardO _ (ixOf T.N x) = some i from h)
  rw [Bool.and_eq_true] at h1
  refine ⟨by rw [G.N]; exact ixOf_at h2, ?_⟩
  have h3 := h1.1
  rw [G.sc]
  unfold L2.Loc
  split at h3
  · exact ⟨.inl (by assumption), .inr (by assumption)⟩
  · exact ⟨.inr (by assumption), .inl (G.fn x h3)⟩
  · cases h3
theorem Good.gl (G : Good X W T) {x : Str} (h : glob T x = true) : Gl X x ∧ (x == ("__debug__" : Str)) = false ∧ x ≠ "__name__" := by
  unfold glob at h
  rw [Bool.and_eq_true] at h
  refine ⟨?_, (not_odd h.2).1, (not_odd h.2).2.2⟩
  have h3 := h.1
  unfold isGl at h3
  show X.env.scope.names.lookup x = _
  rw [G.sc]
  split at h3
  · assumption
  · cases h3
end
/-! ### the readings -/
structure Tr where
  e : TC → Expr → Option (M R)
  t : TC → Expr → Option (M Bool)
  a : TC → List Expr → Option (M (List D))
  g : TC → Expr → Option (TgM × List Nat)
  i : TC → Bool → Expr → Option (M (List D))
structure Tr.Ok (r : Tr) : Prop where
  e : ∀ T e f, r.e T e = some f → ∀ X W, Good X W T → PE X e (eD X.bas X.mg W f)
  t : ∀ T e f, r.t T e = some f → ∀ X W, Good X W T → PT X e (bD X.bas X.mg W f)
  a : ∀ T es f, r.a T es = some f → ∀ X W, Good X W T → PA X es (aD X.bas X.mg W f)
  g : ∀ T e g, r.g T e = some g → ∀ X W, Good X W T → ∀ ts : List Nat, (∀ i ∈ g.2, i ∈ ts) → PG X e (gDt X.bas ts g.1)
  i : ∀ T b e f, r.i T b e = some f → ∀ X W, Good X W T → ∀ tg, (b = true → ∃ elts k p, tg = .Tuple elts k p) → PI X tg e (iD X.bas X.mg W f)
def noTr : Tr := ⟨fun _ _ => none, fun _ _ => none, fun _ _ => none, fun _ _ => none, fun _ _ _ => none⟩
theorem noTr_ok : noTr.Ok := ⟨fun _ _ _ h => (nomatch h), fun _ _ _ h => (nomatch h), fun _ _ _ h => (nomatch h), fun _ _ _ h => (nomatch h), fun _ _ _ _ h => (nomatch h)⟩
def map2 {α β γ : Type} (a : Option α) (b : Option β) (f : α → β → γ) : Option γ := match a with
  | some x => match b with
    | some y => some (f x y)
    | none => none
  | none => none
def map1 {α β : Type} (a : Option α) (f : α → β) : Option β := match a with
  | some x => some (f x)
  | none => none
def bind1 {α β : Type} (a : Option α) (f : α → Option β) : Option β := match a with
  | some x => f x
  | none => none
theorem bind1_some {α β : Type} {a : Option α} {f : α → Option β} {c : β} (h : bind1 a f = some c) : ∃ x, a = some x ∧ f x = some c := by
  cases a with
  | none => cases h
  | some x => exact ⟨x, rfl, h⟩
theorem map2_some {α β γ : Type} {a : Option α} {b : Option β} {f : α → β → γ} {c : γ} (h : map2 a b f = some c) : ∃ x y, a = some x ∧ b = some y ∧ c = f x y := by
  cases a with
  | none => cases h
  | some x => cases b with
    | none => cases h
    | some y => cases h; exact ⟨x, y, rfl, rfl, rfl⟩
theorem map1_some {α β : Type} {a : Option α} {f : α → β} {c : β} (h : map1 a f = some c) : ∃ x, a = some x ∧ c = f x := by
  cases a with
  | none => cases h
  | some x => cases h; exact ⟨x, rfl, rfl⟩
/-! #### names, constants -/
def nameE (T : TC) (x : Str) : Option (M R) := match slotO T x with
  | some i => some (varM i)
  | none => guardO (glob T x) (map1 (T.con.lookup x) conM)
def conE : Const → Option (M R)
  | .int i => some (conM (.int i))
  | .bool b => some (conM (.bool b))
  | .str x => some (conM (.str x))
  | .none => some (conM .none)
  | _ => none
section
variable {X : Cx} {W : WX} {T : TC}
theorem nameE_ok (G : Good X W T) {x : Str} {p : Pos} {f : M R} (h : nameE T x = some f) : PE X (.Name x p) (eD X.bas X.mg W f) := by
  unfold nameE at h
  split at h
  · rename_i i e
    cases h
    obtain ⟨h1, h2, h3, h4⟩ := G.slot e
    exact de_var h1 h2 h3 h4
  · obtain ⟨hg, h⟩ := guardO_some h
    obtain ⟨d, e, rfl⟩ := map1_some h
    obtain ⟨u, v, hm, rv, rp⟩ := G.con x d e
    obtain ⟨g1, g2, _⟩ := G.gl hg
    exact de_con (pe_glob g1 hm rv g2) rp
theorem conE_ok {c : Const} {j : Nat} {p : Pos} {f : M R} (h : conE c = some f) : PE X (.Constant c j p) (eD X.bas X.mg W f) := by
  unfold conE at h
  split at h
  · cases h; exact de_int
  · cases h; exact de_bl
  · cases h; exact de_str
  · cases h; exact de_non
  · cases h
end
/-! #### operators -/
def opO : Operator → Option (D → D → Option (Bool × D))
  | .Add => some addD
  | .Sub => some subD
  | .Mult => some mulD
  | .FloorDiv => some fdivD
  | .Mod => some modD
  | .Pow => some powD
  | _ => none
def cmpO : CmpOp → Option (D → D → Option (Bool × D))
  | .Eq => some eqD
  | .NotEq => some neD
  | .Lt => some ltD
  | .LtE => some leD
  | .Gt => some gtD
  | .GtE => some geD
  | .Is => some isD
  | .IsNot => some isNotD
  | .In => some inD
  | .NotIn => some notInD
theorem opO_ok {X : Cx} {W : WX} {T : TC} (G : Good X W T) {op : Operator} {g : D → D → Option (Bool × D)} (h : opO op = some g) : OpR X (binaryOp op) (rG X.bas g) := by
  unfold opO at h
  split at h
  · cases h; exact op_addDD
  · cases h; exact op_subDD
  · cases h; exact op_mulDD
  · cases h; exact op_fdivDD
  · cases h; exact op_modDD
  · cases h; exact op_powDD
  · cases h
theorem cmpO_ok {X : Cx} {W : WX} {T : TC} (G : Good X W T) {op : CmpOp} {g : D → D → Option (Bool × D)} (h : cmpO op = some g) : OpR X (compareOp op) (rG X.bas g) := by
  have hu := G.hu
  cases op <;> cases h
  · exact op_eqDD hu
  · exact op_neDD hu
  · exact op_ltDD hu
  · exact op_leDD hu
  · exact op_gtDD hu
  · exact op_geDD hu
  · exact op_isDD
  · exact op_isNotDD
  · exact op_inDD hu
  · exact op_notInDD hu
/-! #### targets -/
def tgList (r : Tr) (T : TC) : List Expr → Option ((List D → DEnv → Option DEnv) × List Nat)
  | [] => some (tgNil, [])
  | e :: es => map2 (r.g T e) (tgList r T es) fun p q => (tgCons p.1 q.1, p.2 ++ q.2)
def gStep (r : Tr) (T : TC) : Expr → Option (TgM × List Nat)
  | .Name x _ => map1 (storeO T x) fun i => (tgN i, [i])
  | .Tuple es _ _ => guardO (es.all nst) (map1 (tgList r T es) fun p => (tgT p.1, p.2))
  | _ => none
theorem asg1 {e : Expr} {es : List Expr} {env : Env} (h : nst e = true) : assignEach (e :: es) env = (false, assign e env) :: assignEach es env := by
  cases e <;> first | rfl | cases h
theorem asgLen {env : Env} : ∀ {es : List Expr}, es.all nst = true → (assignEach es env).length = es.length ∧ (assignEach es env).findIdx? (·.1) = none
  | [], _ => ⟨rfl, rfl⟩
  | e :: es, h => by
    rw [List.all_cons, Bool.and_eq_true] at h
    obtain ⟨h1, h2⟩ := asgLen (env := env) h.2
    rw [asg1 h.1]
    refine ⟨by rw [List.length_cons, List.length_cons, h1], ?_⟩
    rw [List.findIdx?_cons, h2]; rfl
section
variable {X : Cx} {W : WX} {T : TC} {r : Tr}
theorem tgList_ok (R : r.Ok) (G : Good X W T) : ∀ {es : List Expr} {p : (List D → DEnv → Option DEnv) × List Nat}, es.all nst = true → tgList r T es = some p → ∀ ts : List Nat, (∀ i ∈ p.2, i ∈ ts) → PGs X es (gDts X.bas ts p.1) ∧ TgLen p.1 es.length
  | [], p, _, h, ts, _ => by cases h; exact ⟨dgs_nil, tgLen_nil⟩
  | e :: es, p, hs, h, ts, ht => by
    rw [List.all_cons, Bool.and_eq_true] at hs
    obtain ⟨a, b, e1, e2, rfl⟩ := map2_some h
    obtain ⟨h1, h2⟩ := tgList_ok R G hs.2 e2 ts fun i hi => ht i (List.mem_append_right _ hi)
    exact ⟨dgs_cons (R.g T e a e1 X W G ts fun i hi => ht i (List.mem_append_left _ hi)) h1 (by rw [asg1 hs.1]; rfl), tgLen_cons h2⟩
theorem gStep_ok (R : r.Ok) (G : Good X W T) {e : Expr} {g : TgM × List Nat} (h : gStep r T e = some g) (ts : List Nat) (ht : ∀ i ∈ g.2, i ∈ ts) : PG X e (gDt X.bas ts g.1) := by
  unfold gStep at h
  split at h
  · obtain ⟨i, e, rfl⟩ := map1_some h
    obtain ⟨h1, h2, h3⟩ := G.store e
    exact dg_name G.nd h1 h2 h3 (ht i List.mem_cons_self)
  · obtain ⟨hs, h⟩ := guardO_some h
    obtain ⟨p, e, rfl⟩ := map1_some h
    obtain ⟨h1, h2⟩ := tgList_ok R G hs e ts ht
    exact dg_tup G.calm h1 h2 (asgLen hs).1 (asgLen hs).2
  · cases h
/-! #### argument lists -/
def aStep (r : Tr) (T : TC) : List Expr → Option (M (List D))
  | [] => some nilM
  | e :: es => guardO (nst e) (map2 (r.e T e) (r.a T es) fun f fs => consM (persM f) fs)
theorem aStep_ok (R : r.Ok) (G : Good X W T) {es : List Expr} {f : M (List D)} (h : aStep r T es = some f) : PA X es (aD X.bas X.mg W f) := by
  unfold aStep at h
  split at h
  · cases h; exact da_nil
  · obtain ⟨hs, h⟩ := guardO_some h
    obtain ⟨a, b, e1, e2, rfl⟩ := map2_some h
    exact da_cons (de_pers (R.e T _ a e1 X W G)) (R.a T _ b e2 X W G) (star1 hs)
end
end DL

/-! # DL, part 16: a text read as combinators: calls, comprehensions. -/
namespace DL
open PySem PySem.Spec PyProof.Rows L2

/-! #### built-ins -/
def blt1 (x : Str) : Option (List D → Option (Bool × D)) :=
  if x == "len" then some lenD else if x == "abs" then some absD else if x == "all" then some allD else if x == "any" then some anyD else if x == "sum" then some sumD else if x == "sorted" then some sortD else if x == "max" then some max1D else if x == "min" then some min1D else none
def blt2 (x : Str) : Option (List D → Option (Bool × D)) :=
  if x == "min" then some min2D else if x == "max" then some max2D else none
def bltT (x : Str) : Option (List D → Option (Bool × D)) :=
  if x == "int" then some intD else if x == "list" then some listD else if x == "tuple" then some tupleD else none
def tyO (x : Str) : Option Ty :=
  if x == "bool" then some .bool else if x == "int" then some .int else if x == "str" then some .str else if x == "list" then some .list else if x == "tuple" then some .tuple else if x == "dict" then some .dict else none
def inBlt (x : Str) : Bool := bltNames.contains x
def tyNames (T : TC) : List Expr → Option (List Ty)
  | [] => some []
  | .Name x _ :: es => guardO (glob T x && inBlt x) (map2 (tyO x) (tyNames T es) (· :: ·))
  | _ => none
section
variable {X : Cx} {W : WX} {T : TC}
theorem blt1_ok (G : Good X W T) {x : Str} {g : List D → Option (Bool × D)} (h : blt1 x = some g) : ∃ id, CallR X (.builtin id) (cG X.bas g) ∧ bootBuiltins x = some (.builtin id) := by
  unfold blt1 at h
  split at h
  · rename_i c; cases h; rw [eq_of_beq c]; exact ⟨_, call_lenDD, boot_len⟩
  · split at h
    · rename_i c; cases h; rw [eq_of_beq c]; exact ⟨_, call_absDD, by decide +kernel⟩
    · split at h
      · rename_i c; cases h; rw [eq_of_beq c]; exact ⟨_, call_allDD G.calm, by decide +kernel⟩
      · split at h
        · rename_i c; cases h; rw [eq_of_beq c]; exact ⟨_, call_anyDD G.calm, by decide +kernel⟩
        · split at h
          · rename_i c; cases h; rw [eq_of_beq c]; exact ⟨_, call_sumDD G.calm, by decide +kernel⟩
          · split at h
            · rename_i c; cases h; rw [eq_of_beq c]; exact ⟨_, call_sortDD G.calm G.hu, by decide +kernel⟩
            · split at h
              · rename_i c; cases h; rw [eq_of_beq c]; exact ⟨_, call_max1DD G.calm, by decide +kernel⟩
              · split at h
                · rename_i c; cases h; rw [eq_of_beq c]; exact ⟨_, call_min1DD G.calm, by decide +kernel⟩
                · cases h
theorem blt2_ok (G : Good X W T) {x : Str} {g : List D → Option (Bool × D)} (h : blt2 x = some g) : ∃ id, CallR X (.builtin id) (cG X.bas g) ∧ bootBuiltins x = some (.builtin id) := by
  unfold blt2 at h
  split at h
  · rename_i c; cases h; rw [eq_of_beq c]; exact ⟨_, call_min2DD G.calm, by decide +kernel⟩
  · split at h
    · rename_i c; cases h; rw [eq_of_beq c]; exact ⟨_, call_max2DD G.calm, by decide +kernel⟩
    · cases h
theorem bltT_ok (G : Good X W T) {x : Str} {g : List D → Option (Bool × D)} (h : bltT x = some g) : ∃ id, CallR X (.type id) (cG X.bas g) ∧ bootBuiltins x = some (.type id) := by
  unfold bltT at h
  split at h
  · rename_i c; cases h; rw [eq_of_beq c]; exact ⟨_, call_intDD, by decide +kernel⟩
  · split at h
    · rename_i c; cases h; rw [eq_of_beq c]; exact ⟨_, call_listDD G.calm, by decide +kernel⟩
    · split at h
      · rename_i c; cases h; rw [eq_of_beq c]; exact ⟨_, call_tupleDD, by decide +kernel⟩
      · cases h
theorem tyO_ok {x : Str} {t : Ty} (h : tyO x = some t) : bootBuiltins x = some (.type t.nm) := by
  unfold tyO at h
  split at h
  · rename_i c; cases h; rw [eq_of_beq c]; decide +kernel
  · split at h
    · rename_i c; cases h; rw [eq_of_beq c]; decide +kernel
    · split at h
      · rename_i c; cases h; rw [eq_of_beq c]; decide +kernel
      · split at h
        · rename_i c; cases h; rw [eq_of_beq c]; decide +kernel
        · split at h
          · rename_i c; cases h; rw [eq_of_beq c]; decide +kernel
          · split at h
            · rename_i c; cases h; rw [eq_of_beq c]; decide +kernel
            · cases h
theorem Good.bltn (G : Good X W T) {x : Str} (h : inBlt x = true) : X.mg x = none := G.blt x (List.contains_iff_mem.mp h)
theorem tyNames_ok (G : Good X W T) : ∀ {es : List Expr} {Ts : List Ty}, tyNames T es = some Ts → TyNs X es Ts
  | [], _, h => by cases h; exact .nil
  | e :: es, Ts, h => by
    unfold tyNames at h
    split at h
    · cases h; rename_i h0; cases h0
    · rename_i x p es' h0
      cases h0
      obtain ⟨hg, h⟩ := guardO_some h
      rw [Bool.and_eq_true] at hg
      obtain ⟨a, b, e1, e2, rfl⟩ := map2_some h
      obtain ⟨g1, g2, g3⟩ := G.gl hg.1
      exact .cons g1 (G.bltn hg.2) (tyO_ok e1) g3 g2 (tyNames_ok G e2)
    · cases h
end
/-! #### calls -/
def argsO (r : Tr) (T : TC) (es : List Expr) : Option (M (List D)) := guardO (es.all nst && !es.isEmpty) (r.a T es)
def isaE (r : Tr) (T : TC) : List Expr → Option (M R)
  | [e, .Name y _] => guardO (nst e && glob T y && inBlt y) (map2 (tyO y) (r.e T e) fun t f => un1 (isaD [t]) f)
  | [e, .Tuple es _ _] => guardO (nst e) (bind1 (tyNames T es) fun Ts => guardO (decide (Ts.length ≤ 1000)) (map1 (r.e T e) fun f => un1 (isaD Ts) f))
  | _ => none
def bltE (r : Tr) (T : TC) (x : Str) : List Expr → Option (M R)
  | [a] => guardO (nst a) (match blt1 x with
    | some g => map1 (r.e T a) fun f => callM g (opd1 f)
    | none => match bltT x with
      | some g => map1 (r.e T a) fun f => callM g (opd1 f)
      | none => none)
  | [a, b] => guardO (nst a && nst b) (match blt2 x with
    | some g => map2 (r.e T a) (r.e T b) fun f f' => callM g (opd2 f f')
    | none => none)
  | _ => none
def ownE (r : Tr) (T : TC) (bor : Bool) (g : FSem) : List Expr → Option (M R)
  | .Name y py :: es => if bor = true then guardO (es.all nst) (map2 (slotO T y) (r.a T es) fun i fs => callB i g fs) else map1 (argsO r T (.Name y py :: es)) fun fs => callF g fs
  | es => guardO (!bor) (map1 (argsO r T es) fun fs => callF g fs)
def callE (r : Tr) (T : TC) (x : Str) (es : List Expr) : Option (M R) := guardO (glob T x) (match T.tab.lookup x with
  | some p => ownE r T p.1 p.2 es
  | none => guardO (inBlt x) (if x == "isinstance" then isaE r T es else bltE r T x es))
section
variable {X : Cx} {W : WX} {T : TC} {r : Tr}
theorem argsO_ok (ok : r.Ok) (G : Good X W T) {es : List Expr} {fs : M (List D)} (h : argsO r T es = some fs) : ∃ e es', es = e :: es' ∧ nst e = true ∧ es'.all nst = true ∧ PA X es (aD X.bas X.mg W fs) := by
  obtain ⟨h1, h2⟩ := guardO_some h
  rw [Bool.and_eq_true] at h1
  cases es with
  | nil => cases h1.2
  | cons e es =>
    have := h1.1
    rw [List.all_cons, Bool.and_eq_true] at this
    exact ⟨e, es, rfl, this.1, this.2, ok.a T _ _ h2 X W G⟩
theorem callF_ok (ok : r.Ok) (G : Good X W T) {x : Str} {p pos : Pos} {es : List Expr} {g : FSem} {fs : M (List D)} (hx : glob T x = true) (ht : T.tab.lookup x = some (false, g)) (h : argsO r T es = some fs) : PE X (.Call (.Name x p) es [] pos) (eD X.bas X.mg W (callF g fs)) := by
  obtain ⟨e, es', rfl, h1, h2, h3⟩ := argsO_ok ok G h
  obtain ⟨k, rm, tb⟩ := G.room
  obtain ⟨f, fd, ps, m1, m2, m3, m4⟩ := tb x false g ht
  obtain ⟨g1, g2, _⟩ := G.gl hx
  exact de_callF m4 rm g1 m1 m2 m3 G.tk h3 g2 (star1 h1) (starP h2)
theorem ownE_ok (ok : r.Ok) (G : Good X W T) {x : Str} {p pos : Pos} {es : List Expr} {bor : Bool} {g : FSem} {f : M R} (hx : glob T x = true) (ht : T.tab.lookup x = some (bor, g)) (h : ownE r T bor g es = some f) : PE X (.Call (.Name x p) es [] pos) (eD X.bas X.mg W f) := by
  unfold ownE at h
  split at h
  · split at h
    · rename_i y py es' hb
      subst hb
      obtain ⟨hs, h⟩ := guardO_some h
      obtain ⟨i, fs, e1, e2, rfl⟩ := map2_some h
      obtain ⟨k, rm, tb⟩ := G.room
      obtain ⟨f, fd, ps, m1, m2, m3, m4⟩ := tb x true g ht
      obtain ⟨g1, g2, _⟩ := G.gl hx
      obtain ⟨n1, n2, n3, n4⟩ := G.slot e1
      exact de_callLend m4 rm g1 m1 m2 m3 G.tk n1 n2 n3 n4 (ok.a T _ _ e2 X W G) g2 (star1 rfl) (starP hs)
    · rename_i hb
      obtain ⟨fs, e1, rfl⟩ := map1_some h
      cases bor with
      | true => exact absurd rfl hb
      | false => exact callF_ok ok G hx ht e1
  · obtain ⟨hb, h⟩ := guardO_some h
    obtain ⟨fs, e1, rfl⟩ := map1_some h
    cases bor with
    | true => cases hb
    | false => exact callF_ok ok G hx ht e1
theorem isaE_ok (ok : r.Ok) (G : Good X W T) {p pos : Pos} {es : List Expr} {f : M R} (hx : glob T "isinstance" = true) (h : isaE r T es = some f) : PE X (.Call (.Name "isinstance" p) es [] pos) (eD X.bas X.mg W f) := by
  obtain ⟨g1, g2, _⟩ := G.gl hx
  have hm : X.mg "isinstance" = none := G.blt _ (by decide +kernel)
  unfold isaE at h
  split at h
  · obtain ⟨hc, h⟩ := guardO_some h
    rw [Bool.and_eq_true, Bool.and_eq_true] at hc
    obtain ⟨t, f, e1, e2, rfl⟩ := map2_some h
    obtain ⟨g3, g4, g5⟩ := G.gl hc.1.2
    exact de_isa1 t g1 hm g3 (G.bltn hc.2) (tyO_ok e1) g5 g4 (ok.e T _ f e2 X W G) (star1 hc.1.1) (star1 rfl) (starP rfl)
  · obtain ⟨hc, h⟩ := guardO_some h
    obtain ⟨Ts, e1, h⟩ := bind1_some h
    obtain ⟨hl, h⟩ := guardO_some h
    obtain ⟨f, e2, rfl⟩ := map1_some h
    exact de_isaN (tyNames_ok G e1) (of_decide_eq_true hl) g1 hm (ok.e T _ f e2 X W G) (star1 hc) (star1 rfl) (starP rfl)
  · cases h
theorem bltE_ok (ok : r.Ok) (G : Good X W T) {x : Str} {p pos : Pos} {es : List Expr} {f : M R} (hx : glob T x = true) (hi : inBlt x = true) (h : bltE r T x es = some f) : PE X (.Call (.Name x p) es [] pos) (eD X.bas X.mg W f) := by
  obtain ⟨g1, g2, g3⟩ := G.gl hx
  have hm := G.bltn hi
  unfold bltE at h
  split at h
  · obtain ⟨hc, h⟩ := guardO_some h
    split at h
    · rename_i g e
      obtain ⟨f, e1, rfl⟩ := map1_some h
      obtain ⟨id, c1, c2⟩ := blt1_ok G e
      exact de_callB c1 g1 hm c2 (da_one (ok.e T _ f e1 X W G) (star1 hc)) g3 g2 (star1 hc) (starP rfl)
    · split at h
      · rename_i g e
        obtain ⟨f, e1, rfl⟩ := map1_some h
        obtain ⟨id, c1, c2⟩ := bltT_ok G e
        exact de_callTy c1 g1 hm c2 (da_one (ok.e T _ f e1 X W G) (star1 hc)) g3 g2 (star1 hc) (starP rfl)
      · cases h
  · obtain ⟨hc, h⟩ := guardO_some h
    rw [Bool.and_eq_true] at hc
    split at h
    · rename_i g e
      obtain ⟨f, f', e1, e2, rfl⟩ := map2_some h
      obtain ⟨id, c1, c2⟩ := blt2_ok G e
      exact de_callB c1 g1 hm c2 (da_two (ok.e T _ f e1 X W G) (ok.e T _ f' e2 X W G) (star1 hc.1) (star1 hc.2)) g3 g2 (star1 hc.1) (starP (by rw [List.all_cons, hc.2]; rfl))
    · cases h
  · cases h
theorem callE_ok (ok : r.Ok) (G : Good X W T) {x : Str} {p pos : Pos} {es : List Expr} {f : M R} (h : callE r T x es = some f) : PE X (.Call (.Name x p) es [] pos) (eD X.bas X.mg W f) := by
  obtain ⟨hx, h⟩ := guardO_some h
  split at h
  · rename_i q e
    exact ownE_ok ok G hx e h
  · obtain ⟨hi, h⟩ := guardO_some h
    split at h
    · rename_i c
      have c' := eq_of_beq c
      subst c'
      exact isaE_ok ok G hx h
    · exact bltE_ok ok G hx hi h
end
/-! #### blocks -/
def ownOf (N : List Str) (scope : Scope) : List (Str × Nat) := N.zipIdx.filter fun p => match scope.names.lookup p.1 with
  | some .local => true
  | some .cell => true
  | _ => false
def blkB (sc scope : Scope) : Bool := (match scope.kind with | .function => true | _ => false) && scope.names.all (fun y => decide (scope.names.lookup y.1 = some y.2)) &&
  scope.names.all (fun y => match y.2 with | .free => (match sc.names.lookup y.1 with | some .cell => true | some .free => true | _ => false) | _ => true)
theorem blkB_ok {N : List Str} {sc scope : Scope} (h : blkB sc scope = true) : BlkOk N sc scope (ownOf N scope) := by
  unfold blkB at h
  rw [Bool.and_eq_true, Bool.and_eq_true] at h
  obtain ⟨⟨h1, h2⟩, h3⟩ := h
  have uniq : ∀ y ∈ scope.names, scope.names.lookup y.1 = some y.2 := fun y hy => of_decide_eq_true (List.all_eq_true.mp h2 y hy)
  refine ⟨?_, uniq, fun p hp => ?_, fun y hy e => ?_, fun y hy e => ?_⟩
  · cases e : scope.kind with
    | function => rfl
    | _ => rw [e] at h1; cases h1
  · have := (List.mem_filter.mp hp).1
    exact (List.mem_zipIdx_iff_getElem?.mp this)
  · have := List.all_eq_true.mp h3 y hy
    rw [e] at this
    change (match sc.names.lookup y.1 with | some .cell => true | some .free => true | _ => false) = true at this
    cases e2 : sc.names.lookup y.1 with
    | none => rw [e2] at this; cases this
    | some k =>
      rw [e2] at this
      cases k <;> first | exact .inl rfl | exact .inr rfl | cases this
  · by_cases hN : y.1 ∈ N
    · left
      obtain ⟨i, hi⟩ := List.mem_iff_getElem?.mp hN
      refine List.mem_map.mpr ⟨(y.1, i), List.mem_filter.mpr ⟨List.mem_zipIdx_iff_getElem?.mpr hi, ?_⟩, rfl⟩
      dsimp only
      rw [uniq y hy]
      rcases e with e | e <;> rw [e]
    · exact .inr hN
def blkT (T : TC) (scope : Scope) : TC := { T with sc := relS scope T.sc, fn := fun x => scope.names.lookup x == some .cell, exs := [] }
theorem Good.blk {X X' : Cx} {W : WX} {T : TC} {scope : Scope} (G : Good X W T) (b : Blk X scope X') : Good X' noX (blkT T scope) := by
  obtain ⟨s, H, C, cl, fp, rfl⟩ := b
  obtain ⟨k, rm, tb⟩ := G.room
  refine ⟨G.calm, G.nd, G.N, ?_, fun x h => h, fun u s' ⟨_, _, _, _, _, _, _, _, _, _, _, _, _, _, _, _, w⟩ => w.elim, ⟨k, rm, fun x bor g h => tb x bor g h⟩, fun x d h => G.con x d h, fun x h => G.blt x h⟩
  show relS scope X.env.scope = relS scope T.sc
  rw [G.sc]
def notSet : Expr → Bool
  | .Set _ _ _ => false
  | _ => true
theorem folded {e : Expr} {env : Env} (h : notSet e = true) : ∀ x, foldedSetIterable e env x = pure x := fun x => by
  cases e <;> first | rfl | cases h
def isTup : Expr → Bool
  | .Tuple _ _ _ => true
  | _ => false
theorem isTup_ok {e : Expr} (h : isTup e = true) : ∃ elts k p, e = .Tuple elts k p := by
  cases e <;> first | exact ⟨_, _, _, rfl⟩ | cases h
def ifsO (r : Tr) (T : TC) : List Expr → Option (M Bool)
  | [] => some yesM
  | [c] => r.t T c
  | _ => none
/-- a comprehension's parts -/
def lcE (r : Tr) (T : TC) (elt tg iter : Expr) (ifs : List Expr) (scope : Scope) : Option (M R) :=
  guardO (blkB T.sc scope && notSet iter) (bind1 (r.i T (isTup tg) iter) fun fi => bind1 (r.g (blkT T scope) tg) fun g => guardO (g.2.all fun i => ((ownOf T.N scope).map (·.2)).contains i)
    (map2 (ifsO r (blkT T scope) ifs) (r.e (blkT T scope) elt) fun t fe => lcM fi g.1 t (persM fe) ((ownOf T.N scope).map (·.2))))
section
variable {X : Cx} {W : WX} {T : TC} {r : Tr}
structure LcP (X : Cx) (W : WX) (elt tg iter : Expr) (ifs : List Expr) (scope : Scope) (f : M R) : Prop where
  ex : ∃ (fi : M (List D)) (g : TgM) (t : M Bool) (fe : M R) (own : List (Str × Nat)), f = lcM fi g t (persM fe) (own.map (·.2)) ∧ PI X tg iter (iD X.bas X.mg W fi) ∧ BlkOk X.N X.env.scope scope own ∧
    (∀ X', Blk X scope X' → PG X' tg (gDt X.bas (own.map (·.2)) g)) ∧ (∀ X', Blk X scope X' → PTs X' ifs (bD X.bas X.mg noX t)) ∧ (∀ X', Blk X scope X' → PE X' elt (pD X.bas X.mg noX (persM fe))) ∧ (∀ x, foldedSetIterable iter X.env x = pure x)
theorem ifsO_ok (ok : r.Ok) (G : Good X W T) {ifs : List Expr} {t : M Bool} (h : ifsO r T ifs = some t) : PTs X ifs (bD X.bas X.mg W t) := by
  unfold ifsO at h
  split at h
  · cases h; exact dts_nil
  · exact dts_one (ok.t T _ t h X W G)
  · cases h
theorem lcE_ok (ok : r.Ok) (G : Good X W T) {elt tg iter : Expr} {ifs : List Expr} {scope : Scope} {f : M R} (h : lcE r T elt tg iter ifs scope = some f) : LcP X W elt tg iter ifs scope f := by
  obtain ⟨hc, h⟩ := guardO_some h
  rw [Bool.and_eq_true] at hc
  obtain ⟨fi, e1, h⟩ := bind1_some h
  obtain ⟨g, e2, h⟩ := bind1_some h
  obtain ⟨hs, h⟩ := guardO_some h
  obtain ⟨t, fe, e3, e4, rfl⟩ := map2_some h
  refine ⟨fi, g.1, t, fe, ownOf T.N scope, rfl, ok.i T _ _ fi e1 X W G tg isTup_ok, ?_, fun X' b => ?_, fun X' b => ?_, fun X' b => ?_, folded hc.2⟩
  · rw [G.N, G.sc]; exact blkB_ok hc.1
  · have eb : X'.bas = X.bas := by obtain ⟨s, H, C, cl, fp, rfl⟩ := b; rfl
    have := ok.g _ tg g e2 X' noX (G.blk b) ((ownOf T.N scope).map (·.2)) fun i hi => List.contains_iff_mem.mp (List.all_eq_true.mp hs i hi)
    rw [eb] at this; exact this
  · have eb : X'.bas = X.bas ∧ X'.mg = X.mg := by obtain ⟨s, H, C, cl, fp, rfl⟩ := b; exact ⟨rfl, rfl⟩
    have := ifsO_ok ok (G.blk b) e3
    rw [eb.1, eb.2] at this; exact this
  · have eb : X'.bas = X.bas ∧ X'.mg = X.mg := by obtain ⟨s, H, C, cl, fp, rfl⟩ := b; exact ⟨rfl, rfl⟩
    have := de_pers (ok.e _ elt fe e4 X' noX (G.blk b))
    rw [eb.1, eb.2] at this; exact this
end
end DL

/-! # DL, part 17: a text read as combinators: all expressions. -/
namespace DL
open PySem PySem.Spec PyProof.Rows L2

def notSlice : Expr → Bool
  | .Slice _ _ _ _ => false
  | _ => true
theorem plainIx {b : Expr} (h : notSlice b = true) : PlainIx b := fun o i => by
  cases b <;> first | rfl | cases h
/-- a chain's middle: no set display in it -/
theorem marks {op : CmpOp} {e : Expr} (h : notSet e = true) : behindInMarks op e = false := by
  cases e <;> first | rfl | cases h
def cmpE (r : Tr) (T : TC) (a : Expr) : List CmpOp → List Expr → Option (M R)
  | [op], [b] => guardO (notSet b) (bind1 (cmpO op) fun g => map2 (r.e T a) (r.e T b) (bin2 g))
  | [op, op'], [b, c] => guardO (notSet c) (bind1 (cmpO op) fun g => bind1 (cmpO op') fun g' => bind1 (r.e T a) fun fa => map2 (r.e T b) (r.e T c) fun fb fc => chn2 g g' fa fb fc)
  | _, _ => none
def boolE (r : Tr) (T : TC) (op : BoolOp) (p : Pos) : List Expr → Option (M R)
  | [a] => r.e T a
  | a :: b :: rest => match op with
    | .And => map2 (r.e T a) (r.e T (.BoolOp .And (b :: rest) p)) andM
    | .Or => map2 (r.e T a) (r.e T (.BoolOp .Or (b :: rest) p)) orM
  | [] => none
def partO (r : Tr) (T : TC) : Option Expr → Option (M (Option Int))
  | none => some noPart
  | some e => map1 (r.e T e) part
def subE (r : Tr) (T : TC) (a : Expr) : Expr → Option (M R)
  | .Slice lo hi none _ => bind1 (r.e T a) fun fa => map2 (partO r T lo) (partO r T hi) fun fl fh => sliceM fa fl fh
  | b => guardO (notSlice b) (map2 (r.e T a) (r.e T b) (bin2 ixD))
def unE (r : Tr) (T : TC) (op : UnaryOp) (a : Expr) : Option (M R) := match op with
  | .Not => map1 (r.e T a) notM
  | .USub => map1 (r.e T a) (un1 negD)
  | _ => none
def methE (r : Tr) (T : TC) (x m : Str) (apos cpos : Pos) (es : List Expr) : Option (M R) := guardO (apos.endLine == cpos.line) (bind1 (slotO T x) fun i => match es with
  | [a] => guardO (nst a) (if m == "append" then map1 (r.e T a) (m1M "list" i appD) else if m == "extend" then map1 (r.e T a) (m1M "list" i extD) else if m == "update" then map1 (r.e T a) (m1M "dict" i updD) else if m == "pop" then map1 (r.e T a) (m1M "dict" i popkD) else none)
  | [a, b] => guardO (nst a && nst b) (if m == "get" then map2 (r.e T a) (r.e T b) (getM i) else if m == "pop" then (match b with
    | .Constant .none _ _ => map1 (r.e T a) (pop2M i)
    | _ => none) else none)
  | [] => if m == "pop" then some (m0M "list" i popD) else none
  | _ => none)
def dispO (r : Tr) (T : TC) (es : List Expr) : Option (M (List D)) := guardO (es.all nst && decide (es.length ≤ 1000)) (r.a T es)
def eStep (r : Tr) (T : TC) : Expr → Option (M R)
  | .Name x _ => nameE T x
  | .Constant c _ _ => conE c
  | .BinOp a op b _ => bind1 (opO op) fun g => map2 (r.e T a) (r.e T b) (bin2 g)
  | .UnaryOp op a _ => unE r T op a
  | .BoolOp op vs p => boolE r T op p vs
  | .Compare a ops cs _ => cmpE r T a ops cs
  | .IfExp c a b _ => bind1 (r.t T c) fun t => map2 (r.e T a) (r.e T b) (ifM t)
  | .Subscript a b _ => subE r T a b
  | .Tuple es _ _ => map1 (dispO r T es) tupM
  | .List es _ => map1 (dispO r T es) lstM
  | .Dict [] [] _ => some dct0
  | .Call (.Name x _) es [] _ => callE r T x es
  | .Call (.Attribute (.Name x _) m apos) es [] cpos => methE r T x m apos cpos es
  | .ListComp elt [c] scope _ => guardO (decide (c.is_async = 0)) (lcE r T elt c.target c.iter c.ifs scope)
  | _ => none
/-- .. with as many results as expressions -/
structure Tr.Ok' (r : Tr) : Prop extends Tr.Ok r where
  al : ∀ T es f, r.a T es = some f → LenM f es.length
section
variable {X : Cx} {W : WX} {T : TC} {r : Tr}
theorem cmpE_ok (ok : r.Ok) (G : Good X W T) {a : Expr} {ops : List CmpOp} {cs : List Expr} {pos : Pos} {f : M R} (h : cmpE r T a ops cs = some f) : PE X (.Compare a ops cs pos) (eD X.bas X.mg W f) := by
  unfold cmpE at h
  split at h
  · obtain ⟨hs, h⟩ := guardO_some h
    obtain ⟨g, e1, h⟩ := bind1_some h
    obtain ⟨fa, fb, e2, e3, rfl⟩ := map2_some h
    exact de_cmp (cmpO_ok G e1) (ok.e T _ fa e2 X W G) (ok.e T _ fb e3 X W G) (marks hs)
  · obtain ⟨hs, h⟩ := guardO_some h
    obtain ⟨g, e1, h⟩ := bind1_some h
    obtain ⟨g', e1', h⟩ := bind1_some h
    obtain ⟨fa, e2, h⟩ := bind1_some h
    obtain ⟨fb, fc, e3, e4, rfl⟩ := map2_some h
    exact de_chain (cmpO_ok G e1) (cmpO_ok G e1') (ok.e T _ fa e2 X W G) (ok.e T _ fb e3 X W G) (ok.e T _ fc e4 X W G) (marks hs)
  · cases h
theorem boolE_ok (ok : r.Ok) (G : Good X W T) {op : BoolOp} {p : Pos} {vs : List Expr} {f : M R} (h : boolE r T op p vs = some f) : PE X (.BoolOp op vs p) (eD X.bas X.mg W f) := by
  unfold boolE at h
  split at h
  · exact de_one (ok.e T _ f h X W G)
  · split at h
    · obtain ⟨fa, fb, e1, e2, rfl⟩ := map2_some h
      exact de_and (ok.e T _ fa e1 X W G) (ok.e T _ fb e2 X W G)
    · obtain ⟨fa, fb, e1, e2, rfl⟩ := map2_some h
      exact de_or (ok.e T _ fa e1 X W G) (ok.e T _ fb e2 X W G)
  · cases h
theorem partO_ok (ok : r.Ok) (G : Good X W T) {o : Option Expr} {f : M (Option Int)} (h : partO r T o = some f) : PO X o (oD X.bas X.mg W f) := by
  unfold partO at h
  split at h
  · cases h; exact do_none
  · obtain ⟨fa, e, rfl⟩ := map1_some h
    exact do_some (ok.e T _ fa e X W G)
theorem subE_ok (ok : r.Ok) (G : Good X W T) {a b : Expr} {pos : Pos} {f : M R} (h : subE r T a b = some f) : PE X (.Subscript a b pos) (eD X.bas X.mg W f) := by
  unfold subE at h
  split at h
  · obtain ⟨fa, e1, h⟩ := bind1_some h
    obtain ⟨fl, fh, e2, e3, rfl⟩ := map2_some h
    exact de_slice (ok.e T _ fa e1 X W G) (partO_ok ok G e2) (partO_ok ok G e3)
  · obtain ⟨hs, h⟩ := guardO_some h
    obtain ⟨fa, fb, e2, e3, rfl⟩ := map2_some h
    exact de_ix (ix_DD G.hu) (ok.e T _ fa e2 X W G) (ok.e T _ fb e3 X W G) (plainIx hs)
theorem unE_ok (ok : r.Ok) (G : Good X W T) {op : UnaryOp} {a : Expr} {pos : Pos} {f : M R} (h : unE r T op a = some f) : PE X (.UnaryOp op a pos) (eD X.bas X.mg W f) := by
  unfold unE at h
  split at h
  · obtain ⟨fa, e, rfl⟩ := map1_some h
    exact de_not (ok.e T _ fa e X W G)
  · obtain ⟨fa, e, rfl⟩ := map1_some h
    exact de_un un_negDD (ok.e T _ fa e X W G)
  · cases h
theorem few1 {a : Expr} {cpos : Pos} {env : Env} (h : nst a = true) : ((backTo cpos (starEach [a] env)).all (fun x => !x.1) && (backToKw cpos (keywordEach [] env)).all (fun x => x.1.isSome)
      && decide (([a] : List Expr).length + ([] : List Keyword).length + (if ([] : List Keyword).isEmpty then 0 else 1) < 30)) = true := by
  rw [star1 h]; rfl
theorem methE_ok (ok : r.Ok) (G : Good X W T) {x m : Str} {p apos cpos : Pos} {es : List Expr} {f : M R} (h : methE r T x m apos cpos es = some f) : PE X (.Call (.Attribute (.Name x p) m apos) es [] cpos) (eD X.bas X.mg W f) := by
  obtain ⟨hl, h1⟩ := guardO_some h
  obtain ⟨i, e0, h2⟩ := bind1_some h1
  clear h h1
  obtain ⟨n1, n2, n3, n4⟩ := G.slot e0
  match es, h2 with
  | [a], h2 =>
    obtain ⟨hs, h3⟩ := guardO_some h2
    clear h2
    by_cases c : (m == "append") = true
    · rw [if_pos c] at h3
      obtain ⟨fa, e, rfl⟩ := map1_some h3
      have c' := eq_of_beq c
      subst c'
      exact de_m1 F.plainAttrs_list F.slot_list_append F.type_list_append mt_appD n1 n2 n3 n4 (ok.e T _ fa e X W G) rfl (few1 hs) hl (star1 hs) rfl
    · rw [if_neg c] at h3
      by_cases c : (m == "extend") = true
      · rw [if_pos c] at h3
        obtain ⟨fa, e, rfl⟩ := map1_some h3
        have c' := eq_of_beq c
        subst c'
        exact de_m1 F.plainAttrs_list F.slot_list_extend F.type_list_extend mt_extD n1 n2 n3 n4 (ok.e T _ fa e X W G) rfl (few1 hs) hl (star1 hs) rfl
      · rw [if_neg c] at h3
        by_cases c : (m == "update") = true
        · rw [if_pos c] at h3
          obtain ⟨fa, e, rfl⟩ := map1_some h3
          have c' := eq_of_beq c
          subst c'
          exact de_m1 F.plainAttrs_dict F.slot_dict_update F.type_dict_update (mt_updD G.calm) n1 n2 n3 n4 (ok.e T _ fa e X W G) rfl (few1 hs) hl (star1 hs) rfl
        · rw [if_neg c] at h3
          by_cases c : (m == "pop") = true
          · rw [if_pos c] at h3
            obtain ⟨fa, e, rfl⟩ := map1_some h3
            have c' := eq_of_beq c
            subst c'
            exact de_m1 F.plainAttrs_dict F.slot_dict_pop F.type_dict_pop mt_popkD n1 n2 n3 n4 (ok.e T _ fa e X W G) rfl (few1 hs) hl (star1 hs) rfl
          · rw [if_neg c] at h3; cases h3
  | [a, b], h2 =>
    obtain ⟨hs, h3⟩ := guardO_some h2
    clear h2
    rw [Bool.and_eq_true] at hs
    have few : ((backTo cpos (starEach [a, b] X.env)).all (fun x => !x.1) && (backToKw cpos (keywordEach [] X.env)).all (fun x => x.1.isSome)
      && decide (([a, b] : List Expr).length + ([] : List Keyword).length + (if ([] : List Keyword).isEmpty then 0 else 1) < 30)) = true := by
      rw [star1 hs.1, star1 hs.2]; rfl
    have trees : backTo cpos (starEach [a, b] X.env) = [(false, eval a X.env), (false, eval b X.env)] := by
      rw [star1 hs.1, star1 hs.2]; rfl
    by_cases c : (m == "get") = true
    · rw [if_pos c] at h3
      obtain ⟨fa, fb, e1, e2, rfl⟩ := map2_some h3
      have c' := eq_of_beq c
      subst c'
      exact de_get (by have := G.hu; omega) n1 n2 n3 n4 (ok.e T _ fa e1 X W G) (ok.e T _ fb e2 X W G) ⟨rfl, few, hl, trees⟩
    · rw [if_neg c] at h3
      by_cases c : (m == "pop") = true
      · rw [if_pos c] at h3
        split at h3
        · obtain ⟨fa, e, rfl⟩ := map1_some h3
          have c' := eq_of_beq c
          subst c'
          exact de_pop2 n1 n2 n3 n4 (ok.e T _ fa e X W G) ⟨rfl, few, hl, trees⟩
        · cases h3
      · rw [if_neg c] at h3; cases h3
  | [], h2 =>
    by_cases c : (m == "pop") = true
    · have h3 : some (m0M "list" i popD) = some f := by rw [← h2, if_pos c]
      cases h3
      have c' := eq_of_beq c
      subst c'
      exact de_m0 F.plainAttrs_list F.slot_list_pop F.type_list_pop mt_popD n1 n2 n3 n4 rfl hl
    · have h3 : none = some f := by rw [← h2, if_neg c]
      cases h3
  | _ :: _ :: _ :: _, h2 => cases h2
theorem dispO_ok (ok : r.Ok') (G : Good X W T) {es : List Expr} {f : M (List D)} (h : dispO r T es = some f) : PA X es (aD X.bas X.mg W f) ∧ LenM f es.length ∧ es.length ≤ 1000 := by
  obtain ⟨hs, h⟩ := guardO_some h
  rw [Bool.and_eq_true] at hs
  exact ⟨ok.a T _ f h X W G, ok.al T _ f h, of_decide_eq_true hs.2⟩
theorem eStep_ok (ok : r.Ok') (G : Good X W T) {e : Expr} {f : M R} (h : eStep r T e = some f) : PE X e (eD X.bas X.mg W f) := by
  unfold eStep at h
  split at h
  · exact nameE_ok G h
  · exact conE_ok h
  · obtain ⟨g, e1, h⟩ := bind1_some h
    obtain ⟨fa, fb, e2, e3, rfl⟩ := map2_some h
    exact de_bin (opO_ok G e1) (ok.e T _ fa e2 X W G) (ok.e T _ fb e3 X W G)
  · exact unE_ok ok.toOk G h
  · exact boolE_ok ok.toOk G h
  · exact cmpE_ok ok.toOk G h
  · obtain ⟨t, e1, h⟩ := bind1_some h
    obtain ⟨fa, fb, e2, e3, rfl⟩ := map2_some h
    exact de_if (ok.t T _ t e1 X W G) (ok.e T _ fa e2 X W G) (ok.e T _ fb e3 X W G)
  · exact subE_ok ok.toOk G h
  · obtain ⟨fs, e1, rfl⟩ := map1_some h
    obtain ⟨h1, h2, h3⟩ := dispO_ok ok G e1
    exact de_tup h1 h2 h3
  · obtain ⟨fs, e1, rfl⟩ := map1_some h
    obtain ⟨h1, h2, h3⟩ := dispO_ok ok G e1
    exact de_lst h1 h2 h3
  · cases h; exact de_dict0
  · exact callE_ok ok.toOk G h
  · exact methE_ok ok.toOk G h
  · rename_i c _ _
    obtain ⟨h0, h⟩ := guardO_some h
    obtain ⟨tg, iter, ifs, as⟩ := c
    have h0 := of_decide_eq_true h0
    dsimp only at h0
    subst h0
    obtain ⟨fi, g, t, fe, own, rfl, h1, h2, h3, h4, h5, h6⟩ := (lcE_ok ok.toOk G h).ex
    exact de_lc G.calm G.nd h1 h2 h3 h4 h5 h6
  · cases h
end
/-! #### tests -/
def plainTe : Expr → Bool
  | .Name _ _ => true
  | .Call _ _ _ _ => true
  | .Subscript _ _ _ => true
  | .Constant _ _ _ => true
  | _ => false
theorem plainTe_ok {e : Expr} {env : Env} (h : plainTe e = true) : ∀ whole, isTrue e env whole = (do let v ← whole; standAt e.pos; holding [v] (truthy v)) := fun whole => by
  cases e <;> first | rfl | cases h
def boolT (r : Tr) (T : TC) (op : BoolOp) (p : Pos) : List Expr → Option (M Bool)
  | [a] => r.t T a
  | a :: b :: rest => match op with
    | .And => map2 (r.t T a) (r.t T (.BoolOp .And (b :: rest) p)) andB
    | .Or => map2 (r.t T a) (r.t T (.BoolOp .Or (b :: rest) p)) orB
  | [] => none
/-- a test; BoolOps are read by PW -/
def tStep (r : Tr) (T : TC) : Expr → Option (M Bool)
  | .UnaryOp .Not a _ => map1 (r.t T a) notB
  | .BoolOp op vs p => boolT r T op p vs
  | .Compare a ops cs _ => map1 (cmpE r T a ops cs) boolM
  | e => guardO (plainTe e) (map1 (r.e T e) boolM)
structure Tr.Ok2 (r : Tr) : Prop extends Tr.Ok' r where
  w : ∀ T op vs p f, r.t T (.BoolOp op vs p) = some f → ∀ X W, Good X W T → PW X (.BoolOp op vs p) (bD X.bas X.mg W f)
section
variable {X : Cx} {W : WX} {T : TC} {r : Tr}
theorem boolT_ok (ok : r.Ok2) (G : Good X W T) {op : BoolOp} {p : Pos} {vs : List Expr} {f : M Bool} (h : boolT r T op p vs = some f) : PW X (.BoolOp op vs p) (bD X.bas X.mg W f) := by
  unfold boolT at h
  split at h
  · cases op with
    | And => exact dw_and1 (ok.t T _ f h X W G)
    | Or => exact dw_or1 (ok.t T _ f h X W G)
  · split at h
    · obtain ⟨fa, fb, e1, e2, rfl⟩ := map2_some h
      exact dw_and (ok.t T _ fa e1 X W G) (ok.w T _ _ _ fb e2 X W G)
    · obtain ⟨fa, fb, e1, e2, rfl⟩ := map2_some h
      exact dw_or (ok.t T _ fa e1 X W G) (ok.w T _ _ _ fb e2 X W G)
  · cases h
theorem cmpT_ok (ok : r.Ok) (G : Good X W T) {a : Expr} {ops : List CmpOp} {cs : List Expr} {pos : Pos} {f : M R} (h : cmpE r T a ops cs = some f) : PT X (.Compare a ops cs pos) (bD X.bas X.mg W (boolM f)) := by
  unfold cmpE at h
  split at h
  · obtain ⟨hs, h⟩ := guardO_some h
    obtain ⟨g, e1, h⟩ := bind1_some h
    obtain ⟨fa, fb, e2, e3, rfl⟩ := map2_some h
    exact dt_cmp (cmpO_ok G e1) (ok.e T _ fa e2 X W G) (ok.e T _ fb e3 X W G) (marks hs)
  · obtain ⟨hs, h⟩ := guardO_some h
    obtain ⟨g, e1, h⟩ := bind1_some h
    obtain ⟨g', e1', h⟩ := bind1_some h
    obtain ⟨fa, e2, h⟩ := bind1_some h
    obtain ⟨fb, fc, e3, e4, rfl⟩ := map2_some h
    exact dt_chain (cmpO_ok G e1) (cmpO_ok G e1') (ok.e T _ fa e2 X W G) (ok.e T _ fb e3 X W G) (ok.e T _ fc e4 X W G) (marks hs)
  · cases h
theorem tStep_ok (ok : r.Ok2) (G : Good X W T) {e : Expr} {f : M Bool} (h : tStep r T e = some f) : PT X e (bD X.bas X.mg W f) := by
  unfold tStep at h
  split at h
  · obtain ⟨fa, e, rfl⟩ := map1_some h
    exact dt_not (ok.t T _ fa e X W G)
  · exact (boolT_ok ok G h).pt
  · obtain ⟨fa, e, rfl⟩ := map1_some h
    exact cmpT_ok ok.toOk G e
  · obtain ⟨hp, h⟩ := guardO_some h
    obtain ⟨fa, e, rfl⟩ := map1_some h
    exact dt_val (ok.e T _ fa e X W G) (plainTe_ok hp)
end
/-! #### what a for walks -/
def iStep (r : Tr) (T : TC) (tup : Bool) : Expr → Option (M (List D))
  | .Call (.Name x p) es [] pos =>
    if x == "range" then guardO (glob T x && es.all nst) (match es with
      | [_] => map1 (r.a T es) fun fs => mapM1 fs range1O
      | [_, _] => map1 (r.a T es) fun fs => mapM1 fs range2O
      | [_, _, _] => map1 (r.a T es) fun fs => mapM1 fs range3O
      | _ => none)
    else if x == "zip" then guardO (glob T x && es.all nst && tup) (match es with
      | [_, _] => map1 (r.a T es) fun fs => mapM1 fs zip2O
      | _ => none)
    else if x == "enumerate" then guardO (glob T x && es.all nst && tup) (match es with
      | [_] => map1 (r.a T es) fun fs => mapM1 fs enumO
      | _ => none)
    else map1 (r.e T (.Call (.Name x p) es [] pos)) walkM
  | e => map1 (r.e T e) walkM
section
variable {X : Cx} {W : WX} {T : TC} {r : Tr}
theorem iStep_ok (ok : r.Ok) (G : Good X W T) {b : Bool} {e : Expr} {f : M (List D)} (h : iStep r T b e = some f) {tg : Expr} (ht : b = true → ∃ elts k p, tg = .Tuple elts k p) : PI X tg e (iD X.bas X.mg W f) := by
  unfold iStep at h
  split at h
  · rename_i x p es pos
    by_cases c : (x == "range") = true
    · rw [if_pos c] at h
      have c' := eq_of_beq c
      subst c'
      obtain ⟨hc, h⟩ := guardO_some h
      rw [Bool.and_eq_true] at hc
      obtain ⟨g1, g2, _⟩ := G.gl hc.1
      have hm : X.mg "range" = none := G.blt _ (by decide +kernel)
      have hs := hc.2
      split at h
      · obtain ⟨fs, e1, rfl⟩ := map1_some h
        rw [List.all_cons, Bool.and_eq_true] at hs
        exact pi_rangeM1 g1 hm (ok.a T _ fs e1 X W G) (by rw [star1 hs.1]; rfl)
      · obtain ⟨fs, e1, rfl⟩ := map1_some h
        rw [List.all_cons, Bool.and_eq_true, List.all_cons, Bool.and_eq_true] at hs
        exact pi_rangeM2 g1 hm (ok.a T _ fs e1 X W G) (by rw [star1 hs.1, star1 hs.2.1]; rfl) (by rw [star1 hs.2.1]; rfl)
      · obtain ⟨fs, e1, rfl⟩ := map1_some h
        rw [List.all_cons, Bool.and_eq_true] at hs
        exact pi_rangeM3 g1 hm (ok.a T _ fs e1 X W G) (star1 hs.1) (starP hs.2)
      · cases h
    · rw [if_neg c] at h
      by_cases c : (x == "zip") = true
      · rw [if_pos c] at h
        have c' := eq_of_beq c
        subst c'
        obtain ⟨hc, h⟩ := guardO_some h
        rw [Bool.and_eq_true, Bool.and_eq_true] at hc
        obtain ⟨g1, g2, _⟩ := G.gl hc.1.1
        have hm : X.mg "zip" = none := G.blt _ (by decide +kernel)
        have hs := hc.1.2
        obtain ⟨elts, k, tp, rfl⟩ := ht hc.2
        split at h
        · obtain ⟨fs, e1, rfl⟩ := map1_some h
          rw [List.all_cons, Bool.and_eq_true] at hs
          exact pi_zipM g1 hm (ok.a T _ fs e1 X W G) (star1 hs.1) (starP hs.2)
        · cases h
      · rw [if_neg c] at h
        by_cases c : (x == "enumerate") = true
        · rw [if_pos c] at h
          have c' := eq_of_beq c
          subst c'
          obtain ⟨hc, h⟩ := guardO_some h
          rw [Bool.and_eq_true, Bool.and_eq_true] at hc
          obtain ⟨g1, g2, _⟩ := G.gl hc.1.1
          have hm : X.mg "enumerate" = none := G.blt _ (by decide +kernel)
          have hs := hc.1.2
          obtain ⟨elts, k, tp, rfl⟩ := ht hc.2
          split at h
          · obtain ⟨fs, e1, rfl⟩ := map1_some h
            rw [List.all_cons, Bool.and_eq_true] at hs
            exact pi_enumM g1 hm (ok.a T _ fs e1 X W G) (by rw [star1 hs.1]; rfl)
          · cases h
        · rw [if_neg c] at h
          obtain ⟨fa, e1, rfl⟩ := map1_some h
          exact pi_walk (ok.e T _ fa e1 X W G)
  · obtain ⟨fa, e1, rfl⟩ := map1_some h
    exact pi_walk (ok.e T _ fa e1 X W G)
theorem aStep_len (ok : r.Ok') {es : List Expr} {f : M (List D)} (h : aStep r T es = some f) : LenM f es.length := by
  unfold aStep at h
  split at h
  · cases h; exact len_nil
  · obtain ⟨hs, h⟩ := guardO_some h
    obtain ⟨a, b, e1, e2, rfl⟩ := map2_some h
    exact len_cons (ok.al T _ b e2)
end
/-! #### all of it -/
def trStep (r : Tr) : Tr := ⟨eStep r, tStep r, aStep r, gStep r, iStep r⟩
def tr : Nat → Tr
  | 0 => noTr
  | n + 1 => trStep (tr n)
theorem tr_ok : ∀ n, (tr n).Ok2
  | 0 => ⟨⟨noTr_ok, fun _ _ _ h => (nomatch h)⟩, fun _ _ _ _ _ h => (nomatch h)⟩
  | n + 1 => by
    have ok := tr_ok n
    refine ⟨⟨⟨fun T e f h X W G => eStep_ok ok.toOk' G h, fun T e f h X W G => tStep_ok ok G h, fun T es f h X W G => aStep_ok ok.toOk G h, fun T e g h X W G ts ht => gStep_ok ok.toOk G h ts ht, fun T b e f h X W G tg ht => iStep_ok ok.toOk G h ht⟩,
      fun T es f h => aStep_len ok.toOk' h⟩, fun T op vs p f h X W G => boolT_ok ok G h⟩
end DL

/-! # DL, part 18: a text read as combinators: statements, defs. -/
namespace DL
open PySem PySem.Spec PyProof.Rows L2

def raiseS (x : Str) : SM := fun δ => .ex ⟨x, []⟩ δ
/-- an exception class of the text, made with a text -/
def ExcOk (X : Cx) (x : Str) : Prop := ∃ C, X.mg x = some (.ref C) ∧ ∀ (m : Str) (j : Nat) (p p2 pos : Pos), Gl X x → (x == ("__debug__" : Str)) = false → PMk X (.Call (.Name x p) [.Constant (.str m) j p2] [] pos) (fun _ H Q => Q (.ref C) none H)
structure GoodS (X : Cx) (W : WX) (T : TC) : Prop extends Good X W T where
  pass : PassesOwn (model X.prog X.w) X.A X.env X.xe
  exs : ∀ x, T.exs.contains x = true → ExcOk X x
  kind : X.env.scope.kind = .function
theorem ds_raise {X : Cx} {W : WX} {x : Str} {m : Str} {j : Nat} {p p2 pos pos' : Pos} (hc : X.calm = true) (tk : Takes X W) (ho : ExcOk X x) (hg : Gl X x) (hd : (x == ("__debug__" : Str)) = false) :
    PS X (.Raise (some (.Call (.Name x p) [.Constant (.str m) j p2] [] pos)) none pos') (sD X.bas X.mg W (raiseS x)) := by
  obtain ⟨C, hm, mk⟩ := ho
  exact PS.mono (ps_raise hc tk (mk m j p p2 pos hg hd)) fun D σ H ⟨P, δ, S, h⟩ => h (.ref C) none σ H P S (Stp.refl _ _ _ _) ⟨C, hm, rfl, .inl ⟨rfl, rfl⟩⟩
/-! #### stored names -/
def tgNames : Expr → List Str
  | .Name x _ => [x]
  | .Tuple es _ _ => es.flatMap fun e => match e with | .Name x _ => [x] | .Tuple fs _ _ => fs.filterMap (fun f => match f with | .Name x _ => some x | _ => none) | _ => []
  | _ => []
def stN : Nat → Stmt → List Str
  | 0, _ => []
  | n + 1, .Assign [t] _ _ => tgNames t
  | n + 1, .For t _ b _ _ => tgNames t ++ b.flatMap (stN n)
  | n + 1, .While _ b _ _ => b.flatMap (stN n)
  | n + 1, .If _ a b _ => a.flatMap (stN n) ++ b.flatMap (stN n)
  | _, _ => []
/-- the slots that a loop forgets at the end of a turn -/
def fgOf (T : TC) (tg : Expr) (body : List Stmt) : List Nat :=
  let ns := (tgNames tg ++ body.flatMap (stN 20)).filterMap (ixOf T.N)
  (List.range T.N.length).filter fun i => ns.contains i && !T.keep.contains i
/-! #### assignments -/
def notComp : Expr → Bool
  | .ListComp _ _ _ _ => false
  | .SetComp _ _ _ _ => false
  | .DictComp _ _ _ _ _ => false
  | _ => true
theorem swNone {e : Expr} {o : Option Expr} {l : Nat} {env : Env} (h : notComp e = true) : swapsWith e o l env = pure false := by
  cases e <;> first | rfl | cases h
def notTup : Expr → Bool
  | .Tuple _ _ _ => false
  | _ => true
def parB (T : TC) (x y : Str) (px py : Pos) (a b : Expr) : Bool := decide (T.sc.names.lookup x = some .local) && decide (T.sc.names.lookup y = some .local) && (px.line == py.line) && !(x == y) && nst a && nst b && !([a, b].all (foldedForSure 8)) && !([a, b].all (constantsAlone 8))
/-- not both the def's own alone: a tuple is made and taken apart -/
def parC (T : TC) (x y : Str) (a b : Expr) : Bool := !(decide (T.sc.names.lookup x = some .local) && decide (T.sc.names.lookup y = some .local)) && nst a && nst b
def lcSw (sc scope : Scope) (x : Str) (px lp : Pos) : Bool := (decide (sc.names.lookup x = some .local) && px.line == lp.line) && !(scope.names.any fun (n, k) => n == x && (k == .local || k == .cell))
def asgS (r : Tr) (T : TC) (e : Expr) : Expr → Option SM
  | .Name x px => bind1 (storeO T x) fun i => match e with
    | .ListComp elt [c] scope lp => guardO (decide (c.is_async = 0)) (map1 (lcE r T elt c.target c.iter c.ifs scope) (setS i))
    | e => guardO (notComp e) (map1 (r.e T e) (setS i))
  | .Subscript (.Name x px) k _ => guardO (notSlice k) (bind1 (slotO T x) fun i => map2 (r.e T k) (r.e T e) (stS i))
  | .Tuple ts kt pt => if notTup e = true then map2 (r.g T (.Tuple ts kt pt)) (r.e T e) fun g f => tgS g.1 f else (match ts, e with
    | [.Name x px, .Name y py], .Tuple [a, b] _ _ => if parC T x y a b = true then map2 (r.g T (.Tuple ts kt pt)) (r.e T e) fun g f => tgS g.1 f else guardO (parB T x y px py a b) (bind1 (storeO T x) fun i => bind1 (storeO T y) fun j => guardO (!(i == j)) (map2 (r.e T a) (r.e T b) (parS i j)))
    | _, _ => none)
  | _ => none
section
variable {X : Cx} {W : WX} {T : TC} {r : Tr}
theorem blockK (h : X.env.scope.kind = .function) : X.env.blockKind = .function := by unfold Env.blockKind; rw [h]; rfl
theorem sub_asg {x : Str} {px pos' : Pos} {k : Expr} {env : Env} (h : notSlice k = true) : ∀ v, assign (.Subscript (.Name x px) k pos') env v = (do
      let ov ← holding [v] (eval (.Name x px) env)
      let iv ← holding [v, ov] (eval k env)
      standAt pos'
      holding [v, ov, iv] (setItem ov iv v)
      release [v, ov, iv] []) := fun v => by
  cases k <;> first | rfl | cases h
def isStar : Expr → Bool
  | .Starred .. => true
  | _ => false
theorem isStar_not {e : Expr} (h : nst e = true) : isStar e = false := by cases e <;> first | rfl | cases h
def nmAt (env : Env) (l : Nat) : Expr → Option Str
  | .Name id pos => if env.kindOf id == some .local && pos.line == l then some id else none
  | _ => none
theorem swapped {x y : Str} {px py pt p2 : Pos} {a b : Expr} {kt k2 : Nat} {env : Env} (hk : env.blockKind = .function) (c1 : env.scope.names.lookup x = some .local) (c2 : env.scope.names.lookup y = some .local) (c3 : (px.line == py.line) = true) (c4 : (x == y) = false)
    (c5 : nst a = true) (c6 : nst b = true) (c7 : ([a, b].all (foldedForSure 8)) = false) (c8 : ([a, b].all (constantsAlone 8)) = false) :
    swappedStores [.Tuple [.Name x px, .Name y py] kt pt] (.Tuple [a, b] k2 p2) env = pure (some [x, y]) := by
  have k1 : (env.kindOf x == some NameKind.local) = true := by show (env.scope.names.lookup x == some NameKind.local) = true; rw [c1]; rfl
  have k2 : (env.kindOf y == some NameKind.local) = true := by show (env.scope.names.lookup y == some NameKind.local) = true; rw [c2]; rfl
  have c3' : (py.line == px.line) = true := by rw [beq_iff_eq] at c3 ⊢; exact c3.symm
  have hd : ([x, y] : List Str).eraseDups.length = 2 := by
    have : (y == x) = false := by rw [← Bool.not_eq_true, beq_iff_eq] at c4 ⊢; exact fun z => c4 z.symm
    simp [List.eraseDups_cons, this]
  have hn : ([.Name x px, .Name y py] : List Expr).filterMap (nmAt env px.line) = [x, y] := by
    have e1 : nmAt env px.line (.Name x px) = some x := by
      show (if (env.kindOf x == some .local && px.line == px.line) = true then some x else none) = _
      rw [k1, beq_self_eq_true]; rfl
    have e2 : nmAt env px.line (.Name y py) = some y := by
      show (if (env.kindOf y == some .local && py.line == px.line) = true then some y else none) = _
      rw [k2, c3']; rfl
    rw [List.filterMap_cons, e1, List.filterMap_cons, e2, List.filterMap_nil]
  unfold swappedStores
  refine (if_neg ?_).trans ((if_neg ?_).trans ?_)
  · rw [hk]; exact Bool.false_ne_true
  · intro z
    have z' : (isStar a || (isStar b || false)) = true := z
    rw [isStar_not c5, isStar_not c6] at z'; cases z'
  · show (if ((([.Name x px, .Name y py] : List Expr).filterMap (nmAt env px.line)).length != 2 || (([.Name x px, .Name y py] : List Expr).filterMap (nmAt env px.line)).eraseDups.length != (([.Name x px, .Name y py] : List Expr).filterMap (nmAt env px.line)).length) = true then pure none else
      if ([a, b].all (foldedForSure 8)) = true then pure none else do
        if ([a, b].all (constantsAlone 8)) = true then unsupported "assign.tuple-of-constant-expressions:order-of-the-stores"
        pure (some (([.Name x px, .Name y py] : List Expr).filterMap (nmAt env px.line)))) = _
    rw [hn, hd, c7, c8]; rfl
theorem swapped_no {x y : Str} {px py pt p2 : Pos} {a b : Expr} {kt k2 : Nat} {env : Env} (hk : env.blockKind = .function) (c1 : ¬ (env.scope.names.lookup x = some .local ∧ env.scope.names.lookup y = some .local))
    (c5 : nst a = true) (c6 : nst b = true) :
    swappedStores [.Tuple [.Name x px, .Name y py] kt pt] (.Tuple [a, b] k2 p2) env = pure none := by
  have hn : (([.Name x px, .Name y py] : List Expr).filterMap (nmAt env px.line)).length ≠ 2 := by
    have q : ∀ (z : Str) (p : Pos), env.scope.names.lookup z ≠ some .local → nmAt env px.line (.Name z p) = none := fun z p h => by
      show (if (env.kindOf z == some .local && p.line == px.line) = true then some z else none) = _
      have : (env.kindOf z == some NameKind.local) = false := by
        rw [← Bool.not_eq_true, beq_iff_eq]; exact h
      rw [this]; rfl
    have le : ∀ l : List Expr, (l.filterMap (nmAt env px.line)).length ≤ l.length := fun l => List.length_filterMap_le _ _
    by_cases hx : env.scope.names.lookup x = some .local
    · have hy : env.scope.names.lookup y ≠ some .local := fun z => c1 ⟨hx, z⟩
      have : ([.Name x px, .Name y py] : List Expr).filterMap (nmAt env px.line) = ([.Name x px] : List Expr).filterMap (nmAt env px.line) := by
        rw [List.filterMap_cons, List.filterMap_cons, q y py hy, List.filterMap_nil, List.filterMap_cons, List.filterMap_nil]
      rw [this]
      have : _ ≤ 1 := le [.Name x px]
      intro z; rw [z] at this; omega
    · rw [List.filterMap_cons, q x px hx]
      have : _ ≤ 1 := le [.Name y py]
      intro z; rw [z] at this; omega
  unfold swappedStores
  refine (if_neg ?_).trans ((if_neg ?_).trans ?_)
  · rw [hk]; exact Bool.false_ne_true
  · intro z
    have z' : (isStar a || (isStar b || false)) = true := z
    rw [isStar_not c5, isStar_not c6] at z'; cases z'
  · show (if ((([.Name x px, .Name y py] : List Expr).filterMap (nmAt env px.line)).length != 2 || (([.Name x px, .Name y py] : List Expr).filterMap (nmAt env px.line)).eraseDups.length != (([.Name x px, .Name y py] : List Expr).filterMap (nmAt env px.line)).length) = true then pure none else
      if ([a, b].all (foldedForSure 8)) = true then pure none else do
        if ([a, b].all (constantsAlone 8)) = true then unsupported "assign.tuple-of-constant-expressions:order-of-the-stores"
        pure (some (([.Name x px, .Name y py] : List Expr).filterMap (nmAt env px.line)))) = _
    rw [if_pos]
    rw [Bool.or_eq_true]
    exact .inl (by simpa using hn)
theorem asgS_ok (ok : r.Ok) (G : GoodS X W T) {t e : Expr} {pos : Pos} {f : SM} (h : asgS r T e t = some f) : PS X (.Assign [t] e pos) (sD X.bas X.mg W f) := by
  unfold asgS at h
  split at h
  · rename_i x px
    obtain ⟨i, e0, h1⟩ := bind1_some h
    clear h
    obtain ⟨n1, n2, n3⟩ := G.store e0
    split at h1
    · rename_i elt c scope lp
      obtain ⟨h0, h2⟩ := guardO_some h1
      clear h1
      obtain ⟨tg, iter, ifs, as⟩ := c
      have h0 := of_decide_eq_true h0
      dsimp only at h0 h2
      subst h0
      obtain ⟨fm, e1, rfl⟩ := map1_some h2
      obtain ⟨fi, g, t, fe, own, rfl, l1, l2, l3, l4, l5, l6⟩ := (lcE_ok ok G.toGood e1).ex
      have hsw : swapsWith (.ListComp elt [⟨tg, iter, ifs, 0⟩] scope lp) (some (.Name x px)) pos.line X.env = pure (lcSw X.env.scope scope x px lp) := by
        show pure (X.env.blockKind == .function && X.env.kindOf x == some .local && px.line == lp.line && _) = _
        rw [blockK G.kind]
        unfold lcSw
        have : (X.env.kindOf x == some NameKind.local) = decide (X.env.scope.names.lookup x = some .local) := by
          show (X.env.scope.names.lookup x == some NameKind.local) = _
          rw [Bool.eq_iff_iff, beq_iff_eq, decide_eq_true_iff]
        rw [this]
        rfl
      cases hb : lcSw X.env.scope scope x px lp with
      | true =>
        rw [hb] at hsw
        have hl : X.env.scope.names.lookup x = some .local := by
          unfold lcSw at hb
          rw [Bool.and_eq_true, Bool.and_eq_true] at hb
          exact of_decide_eq_true hb.1.1
        exact ds_setLc G.calm G.nd n1 hl hsw l1 l2 l3 l4 l5 l6
      | false =>
        rw [hb] at hsw
        exact ds_set G.nd n1 n2 (de_lc G.calm G.nd l1 l2 l3 l4 l5 l6) hsw n3
    · obtain ⟨hc, h2⟩ := guardO_some h1
      obtain ⟨fa, e1, rfl⟩ := map1_some h2
      exact ds_set G.nd n1 n2 (ok.e T _ fa e1 X W G.toGood) (swNone hc) n3
  · rename_i x px k pos'
    obtain ⟨hs, h1⟩ := guardO_some h
    obtain ⟨i, e0, h2⟩ := bind1_some h1
    obtain ⟨fk, fe, e1, e2, rfl⟩ := map2_some h2
    obtain ⟨n1, n2, n3, n4⟩ := G.slot e0
    exact ds_store G.hu n1 n2 n3 n4 (ok.e T _ fk e1 X W G.toGood) (ok.e T _ fe e2 X W G.toGood) (by cases e <;> rfl) (by cases e <;> rfl) (sub_asg hs)
  · rename_i ts kt pt
    by_cases hn : notTup e = true
    · rw [if_pos hn] at h
      obtain ⟨g, fe, e1, e2, rfl⟩ := map2_some h
      exact ds_tg (ok.e T _ fe e2 X W G.toGood) (ok.g T _ g e1 X W G.toGood g.2 fun _ z => z) (by cases e <;> rfl) (by cases e <;> first | rfl | cases hn) rfl
    · rw [if_neg hn] at h
      split at h
      · rename_i x px y py a b k2 p2
        by_cases hC : parC T x y a b = true
        · rw [if_pos hC] at h
          obtain ⟨g, fe, e1, e2, rfl⟩ := map2_some h
          unfold parC at hC
          simp only [Bool.and_eq_true, Bool.not_eq_true', Bool.and_eq_false_iff, decide_eq_false_iff_not] at hC
          obtain ⟨⟨c1, c5⟩, c6⟩ := hC
          rw [← G.sc] at c1
          exact ds_tg (ok.e T _ fe e2 X W G.toGood) (ok.g T _ g e1 X W G.toGood g.2 fun _ z => z) rfl (swapped_no (blockK G.kind) (fun z => c1.elim (fun q => q z.1) fun q => q z.2) c5 c6) rfl
        rw [if_neg hC] at h
        obtain ⟨hc, h1⟩ := guardO_some h
        obtain ⟨i, e0, h2⟩ := bind1_some h1
        obtain ⟨j, e1, h3⟩ := bind1_some h2
        obtain ⟨hij, h4⟩ := guardO_some h3
        obtain ⟨fa, fb, e2, e3, rfl⟩ := map2_some h4
        clear h h1 h2 h3 h4
        obtain ⟨n1, n2, n3⟩ := G.store e0
        obtain ⟨m1, m2, m3⟩ := G.store e1
        unfold parB at hc
        simp only [Bool.and_eq_true, Bool.not_eq_true', decide_eq_true_eq] at hc
        obtain ⟨⟨⟨⟨⟨⟨⟨c1, c2⟩, c3⟩, c4⟩, c5⟩, c6⟩, c7⟩, c8⟩ := hc
        rw [← G.sc] at c1 c2
        have ij : i ≠ j := fun z => by subst z; simp at hij
        refine ds_par G.calm G.nd n1 m1 ij c1 c2 (ok.e T _ fa e2 X W G.toGood) (ok.e T _ fb e3 X W G.toGood) (star1 c5) (star1 c6) ?_ rfl
        exact swapped (blockK G.kind) c1 c2 c3 c4 c5 c6 c7 c8
      · cases h
  · cases h
end
/-! #### statements -/
structure TrS where
  s : TC → Stmt → Option SM
  l : TC → List Stmt → Option SM
structure TrS.Ok (q : TrS) : Prop where
  s : ∀ T st f, q.s T st = some f → ∀ X W, GoodS X W T → PS X st (sD X.bas X.mg W f)
  l : ∀ T st f, q.l T st = some f → ∀ X W, GoodS X W T → PSs X st (sD X.bas X.mg W f)
def sStep (r : Tr) (q : TrS) (T : TC) : Stmt → Option SM
  | .Pass _ => some passS
  | .Expr e _ => guardO (notComp e) (map1 (r.e T e) exprS)
  | .If c a b _ => bind1 (r.t T c) fun t => map2 (q.l T a) (q.l T b) (ifS t)
  | .Return (some e) _ => map1 (r.e T e) retS
  | .Return none _ => some (retS (conM .none))
  | .Assign [t] e _ => asgS r T e t
  | .For tg iter body [] _ => guardO (notSet iter) (bind1 (r.i T (isTup tg) iter) fun fi => bind1 (r.g T tg) fun g => map1 (q.l T body) fun t => forS fi g.1 t (fgOf T tg body))
  | .While c body [] _ => map2 (r.t T c) (q.l T body) whileS
  | .Raise (some (.Call (.Name x _) [.Constant (.str _) _ _] [] _)) none _ => guardO (T.exs.contains x && glob T x) (some (raiseS x))
  | _ => none
def lStep (q : TrS) (T : TC) : List Stmt → Option SM
  | [] => some passS
  | st :: rest => map2 (q.s T st) (q.l T rest) seqS
section
variable {X : Cx} {W : WX} {T : TC} {r : Tr} {q : TrS}
theorem sStep_ok (ok : r.Ok) (oq : q.Ok) (G : GoodS X W T) {st : Stmt} {f : SM} (h : sStep r q T st = some f) : PS X st (sD X.bas X.mg W f) := by
  unfold sStep at h
  split at h
  · cases h; exact ds_pass
  · obtain ⟨hc, h1⟩ := guardO_some h
    obtain ⟨fa, e1, rfl⟩ := map1_some h1
    exact ds_expr (ok.e T _ fa e1 X W G.toGood) (swNone hc)
  · obtain ⟨t, e1, h1⟩ := bind1_some h
    obtain ⟨fa, fb, e2, e3, rfl⟩ := map2_some h1
    exact ds_if (ok.t T _ t e1 X W G.toGood) (oq.l T _ fa e2 X W G) (oq.l T _ fb e3 X W G)
  · obtain ⟨fa, e1, rfl⟩ := map1_some h
    exact ds_ret (ok.e T _ fa e1 X W G.toGood)
  · cases h; exact ds_retN
  · exact asgS_ok ok G h
  · obtain ⟨hc, h1⟩ := guardO_some h
    obtain ⟨fi, e1, h2⟩ := bind1_some h1
    obtain ⟨g, e2, h3⟩ := bind1_some h2
    obtain ⟨t, e3, rfl⟩ := map1_some h3
    exact ds_for _ G.pass G.calm (ok.i T _ _ fi e1 X W G.toGood _ isTup_ok) (ok.g T _ g e2 X W G.toGood g.2 fun _ z => z) (oq.l T _ t e3 X W G) (folded hc)
  · obtain ⟨t, u, e1, e2, rfl⟩ := map2_some h
    exact ds_while G.pass (ok.t T _ t e1 X W G.toGood) (oq.l T _ u e2 X W G)
  · obtain ⟨hc, h1⟩ := guardO_some h
    cases h1
    rw [Bool.and_eq_true] at hc
    obtain ⟨g1, g2, _⟩ := G.gl hc.2
    exact ds_raise G.calm G.tk (G.exs _ hc.1) g1 g2
  · cases h
theorem lStep_ok (oq : q.Ok) (G : GoodS X W T) {st : List Stmt} {f : SM} (h : lStep q T st = some f) : PSs X st (sD X.bas X.mg W f) := by
  unfold lStep at h
  split at h
  · cases h; exact ds_nil
  · obtain ⟨fa, fb, e2, e3, rfl⟩ := map2_some h
    exact ds_cons (oq.s T _ fa e2 X W G) (oq.l T _ fb e3 X W G)
end
def trS (n : Nat) : Nat → TrS
  | 0 => ⟨fun _ _ => none, fun _ _ => none⟩
  | m + 1 => ⟨sStep (tr n) (trS n m), lStep (trS n m)⟩
theorem trS_ok (n : Nat) : ∀ m, (trS n m).Ok
  | 0 => ⟨fun _ _ _ h => (nomatch h), fun _ _ _ h => (nomatch h)⟩
  | m + 1 => ⟨fun T st f h X W G => sStep_ok (tr_ok n).toOk (trS_ok n m) G h, fun T st f h X W G => lStep_ok (trS_ok n m) G h⟩
/-- a def's body -/
def bodyS (T : TC) (b : List Stmt) : Option SM := (trS 60 60).l T b
theorem bodyS_ok {X : Cx} {W : WX} {T : TC} {b : List Stmt} {f : SM} (h : bodyS T b = some f) (G : GoodS X W T) : PSs X b (sD X.bas X.mg W f) := (trS_ok 60 60).l T b f h X W G

/-! #### defs -/
/-- what all defs of a text have in common -/
structure Wd (P : Program) (w : World) (K : PySem.W.Frag) (mg : Str → Option Value) (con : List (Str × D)) (exs : List Str) : Prop where
  con : ∀ x d, con.lookup x = some d → ∃ u v, mg x = some u ∧ RelV v u ∧ ∀ Q, Rep ⟨P, w, K⟩ Q v d
  blt : ∀ x ∈ bltNames, mg x = none
  exs : ∀ x, exs.contains x = true → ∃ C, mg x = some (.ref C) ∧ ∀ X : Cx, X.prog = P → X.w = w → X.K = K → X.mg = mg → ∀ (m : Str) (j : Nat) (p p2 pos : Pos), Gl X x → (x == ("__debug__" : Str)) = false → PMk X (.Call (.Name x p) [.Constant (.str m) j p2] [] pos) (fun _ H Q => Q (.ref C) none H)
/-- a def that one may call, up to the level k -/
def FOk (P : Program) (w : World) (K : PySem.W.Frag) (mg : Str → Option Value) (base : Heap) (k : Nat) (x : Str) (bor : Bool) (g : FSem) : Prop :=
  ∃ f fd ps, mg x = some (.ref f) ∧ PySem.W.keepIn K (.ref f) = true ∧ Binds K fd ps [] ∧ FnOk P w K mg base (L2.CX P w) k f fd ps (spD ⟨P, w, K⟩ mg bor g)
def TabOk (P : Program) (w : World) (K : PySem.W.Frag) (mg : Str → Option Value) (base : Heap) (k : Nat) (tab : List (Str × Bool × FSem)) : Prop := ∀ x bor g, tab.lookup x = some (bor, g) → FOk P w K mg base k x bor g
section
variable {P : Program} {w : World} {K : PySem.W.Frag} {mg : Str → Option Value} {base : Heap} {con : List (Str × D)} {exs : List Str} {tab : List (Str × Bool × FSem)} {k : Nat}
theorem FOk.mono {j k : Nat} {x : Str} {bor : Bool} {g : FSem} (h : FOk P w K mg base j x bor g) (l : j ≤ k) : FOk P w K mg base k x bor g := by
  obtain ⟨f, fd, ps, a, b, c, d⟩ := h
  exact ⟨f, fd, ps, a, b, c, d.mono l⟩
theorem TabOk.nil : TabOk P w K mg base k [] := fun _ _ _ h => (nomatch h)
theorem TabOk.cons {x : Str} {bor : Bool} {g : FSem} (h : FOk P w K mg base k x bor g) (t : TabOk P w K mg base k tab) : TabOk P w K mg base k ((x, bor, g) :: tab) := fun y b f e => by
  rw [List.lookup_cons] at e
  split at e
  · rename_i c; cases e; rw [eq_of_beq c]; exact h
  · exact t y b f e
theorem TabOk.mono {j : Nat} (h : TabOk P w K mg base j tab) (l : j ≤ k) : TabOk P w K mg base k tab := fun x b g e => (h x b g e).mono l
/-- the context of a def's body -/
def tcOf (N : List Str) (sc : Scope) (tab : List (Str × Bool × FSem)) (con : List (Str × D)) (exs : List Str) (keep : List Nat) : TC := ⟨N, sc, fun _ => true, tab, con, exs, keep⟩
theorem good_of (Wd : Wd P w K mg con exs) (tb : TabOk P w K mg base k tab) {N ps : List Str} {qual : Str} {sc : Scope} {f : Addr} {cdv : Value} {A : Around} {outer : List Env} {s : Shared} {H : Hp} {E : XK} (S : FnScope N ps sc) (hr : Room k (A.deeper (envOfC qual sc s.heap.objs.size f cdv))) (keep : List Nat) :
    GoodS (cxOf (L2.CX P w) P w K mg base N qual sc f cdv A outer s H E) (fun cls d _ H => E cls d H) (tcOf N sc tab con exs keep) where
  calm := rfl
  nd := S.nd
  N := rfl
  sc := rfl
  fn := fun _ _ => rfl
  tk := takes_of rfl rfl rfl rfl
  room := ⟨k, hr, tb⟩
  con := Wd.con
  blt := Wd.blt
  pass := passes_of rfl
  exs := fun x h => by
    obtain ⟨C, h1, h2⟩ := Wd.exs x h
    exact ⟨C, h1, fun m j p p2 pos g1 g2 => h2 _ rfl rfl rfl rfl m j p p2 pos g1 g2⟩
  kind := S.kind
/-- THE RULE for a def -/
theorem def_ok (Wd : Wd P w K mg con exs) (tb : TabOk P w K mg base k tab) {x qual : Str} {st : Stmt} {f : Addr} {fd : FuncData} {N ps : List Str} {bor : Bool} {t : SM} {keep : List Nat} (F : Fun K x qual st f fd) (S : FnScope N ps (defScope st)) (b : Binds K fd ps []) (hm : mg x = some (.ref f))
    (h : bodyS (tcOf N (defScope st) tab con exs keep) (defBody st) = some t) {n np : Nat} (hn : N.length = n) (hp : ps.length = np) : FOk P w K mg base (k + 1) x bor (runF n np bor t) := by
  subst hn hp
  exact ⟨f, fd, ps, hm, F.kp, b, fn_ok F S fun cdv A outer s H E hr => bodyS_ok h (good_of Wd tb S hr keep)⟩
/-- a def that calls itself, by turns -/
theorem def_bad {x qual : Str} {st : Stmt} {f : Addr} {fd : FuncData} {ps : List Str} {bor : Bool} (F : Fun K x qual st f fd) (b : Binds K fd ps []) (hm : mg x = some (.ref f)) : FOk P w K mg base k x bor (fun _ => .bad) :=
  ⟨f, fd, ps, hm, F.kp, b, ⟨fun _ _ _ _ ⟨_, _, _, _, h⟩ => h.elim, fun _ _ _ _ _ _ _ _ _ _ _ _ _ ⟨_, _, _, _, h⟩ => h.elim⟩⟩
theorem def_rec (Wd : Wd P w K mg con exs) (tb : TabOk P w K mg base k tab) {x qual : Str} {st : Stmt} {f : Addr} {fd : FuncData} {N ps : List Str} {bor : Bool} {t : FSem → SM} {g : Nat → FSem} {keep : List Nat} (F : Fun K x qual st f fd) (S : FnScope N ps (defScope st)) (b : Binds K fd ps []) (hm : mg x = some (.ref f))
    (h : ∀ G, bodyS (tcOf N (defScope st) ((x, bor, G) :: tab) con exs keep) (defBody st) = some (t G)) {n np : Nat} (hn : N.length = n) (hp : ps.length = np) (g0 : g 0 = fun _ => .bad) (gS : ∀ i, g (i + 1) = runF n np bor (t (g i))) : ∀ i, FOk P w K mg base (k + i) x bor (g i)
  | 0 => by rw [g0]; exact def_bad F b hm
  | i + 1 => by
    rw [gS]
    exact def_ok Wd (.cons (def_rec Wd tb F S b hm h hn hp g0 gS i) (tb.mono (Nat.le_add_right _ _))) F S b hm (h _) hn hp
end
end DL

/-! # DL, part 19: the laws' own loop over bags. -/
namespace DL
open PySem PySem.Spec PyProof.Rows L2

/-! ### a list of new lists -/
/-- objects of one's own, apart, as these data say -/
structure BagsR (K : Bas) (P H : Hp) (H0 : Hp) (l : Addr) (bs : List Addr) (ys : List PyData) : Prop where
  len : bs.length = ys.length
  nd : bs.Nodup
  at_ : ∀ (i : Nat) (b : Addr) (y : PyData), bs[i]? = some b → ys[i]? = some y → H0 b = none ∧ b ≠ l ∧ P b = none ∧ OwnR K P H b y
/-- no slot is known -/
def blankE (n : Nat) : DEnv := List.replicate n none
def lcNLoop (g : TgM) (e : M R) (n : Nat) : List PyData → Option (List PyData)
  | [] => some []
  | d :: ds => match g d (blankE n) with
    | none => none
    | some δ1 => match e δ1 with
      | .ok (.new y) _ => map1 (lcNLoop g e n ds) (y :: ·)
      | _ => none
section
variable {K : Bas} {mg : Str → Option Value}
theorem BagsR.snoc {P H : Hp} {H0 : Hp} {l : Addr} {bs : List Addr} {ys : List PyData} {b : Addr} {y : PyData} (h : BagsR K P H H0 l bs ys) (hb : b ∉ bs) (n0 : H0 b = none) (nl : b ≠ l) (np : P b = none) (o : OwnR K P H b y) : BagsR K P H H0 l (bs ++ [b]) (ys ++ [y]) := by
  refine ⟨by rw [List.length_append, List.length_append, h.len]; rfl, ?_, fun i c z e1 e2 => ?_⟩
  · rw [List.nodup_append]
    refine ⟨h.nd, by simp, fun x hx y hy => ?_⟩
    have : y = b := by simpa using hy
    subst this
    exact fun z => hb (z ▸ hx)
  · rcases Nat.lt_or_ge i bs.length with q | q
    · rw [List.getElem?_append_left q] at e1
      rw [List.getElem?_append_left (by rw [← h.len]; exact q)] at e2
      exact h.at_ i c z e1 e2
    · rw [List.getElem?_append_right q] at e1
      rw [List.getElem?_append_right (by rw [← h.len]; exact q), ← h.len] at e2
      rcases Nat.eq_zero_or_pos (i - bs.length) with q | q
      · rw [q] at e1 e2
        simp only [List.getElem?_cons_zero, Option.some.injEq] at e1 e2
        subst e1 e2
        exact ⟨n0, nl, np, o⟩
      · rw [List.getElem?_eq_none (by simp; omega)] at e1; cases e1
theorem BagsR.step {P H P' H' : Hp} {H0 : Hp} {l : Addr} {bs : List Addr} {ys : List PyData} (h : BagsR K P H H0 l bs ys) (sb : Sub P P') (k : ∀ b ∈ bs, P' b = P b ∧ ∀ o, H b = some o → H' b = some o) : BagsR K P' H' H0 l bs ys :=
  ⟨h.len, h.nd, fun i b y e1 e2 => by
    obtain ⟨a1, a2, a3, a4⟩ := h.at_ i b y e1 e2
    obtain ⟨k1, k2⟩ := k b (List.mem_of_getElem? e1)
    exact ⟨a1, a2, by rw [k1]; exact a3, a4.step sb k2⟩⟩
theorem BagsR.mem {P H : Hp} {H0 : Hp} {l : Addr} {bs : List Addr} {ys : List PyData} (h : BagsR K P H H0 l bs ys) {b : Addr} (hb : b ∈ bs) : H0 b = none ∧ b ≠ l ∧ P b = none ∧ ∃ y, OwnR K P H b y := by
  obtain ⟨i, e⟩ := List.mem_iff_getElem?.mp hb
  have q : i < ys.length := by rw [← h.len]; exact (List.getElem?_eq_some_iff.mp e).1
  obtain ⟨a1, a2, a3, a4⟩ := h.at_ i b _ e (List.getElem?_eq_getElem q)
  exact ⟨a1, a2, a3, _, a4⟩
theorem blank_no {n : Nat} {i : Nat} {k : Kd} {d : PyData} : ¬ At (blankE n) i k d := fun h => by
  unfold At blankE at h
  rw [List.getElem?_replicate] at h
  split at h <;> cases h
theorem SR.blank {P H : Hp} {σ : Sg} {n : Nat} (sb : Sub P H) (hl : σ.length = n) : SR K P H σ (blankE n) :=
  ⟨by unfold blankE; rw [List.length_replicate]; exact hl, sb, fun i k d h => (blank_no h).elim, fun i j k l d e a h => (blank_no h).elim⟩
theorem Stp.blank {P H P' H' : Hp} {σ σ' : Sg} {n : Nat} (k : ∀ b o, H b = some o → H' b = some o) (pk : ∀ b o, H b = some o → P' b = P b) (sb : Sub P P') : Stp σ (blankE n) P H σ' (blankE n) P' H' :=
  ⟨fun b o e _ _ => k b o e, fun b o e _ _ => pk b o e, fun b o e => ⟨o, k b o e⟩, sb, fun b ⟨i, d, h, _⟩ => (blank_no h).elim, fun i d h => (blank_no h).elim, fun i d h => (blank_no h).elim⟩
theorem blank_keep {P H P' H' : Hp} {σ σ' : Sg} {n : Nat} {δ : DEnv} (s : Stp σ (blankE n) P H σ' δ P' H') (S : SR K P' H' σ' δ) : Ext P H P' H' :=
  ⟨fun b o e => s.keep b o e (fun ⟨i, d, h, _⟩ => blank_no h) fun ⟨i, d, h, _⟩ => blank_no h, fun b o e => s.pkeep b o e (fun ⟨i, d, h, _⟩ => blank_no h) fun ⟨i, d, h, _⟩ => blank_no h, s.sub, S.ph⟩
theorem tLcN_of {g : TgM} {e : M R} {vs : List Nat} {σ : Sg} {n : Nat} {P1 H1 : Hp} {J : It} {ds ys : List PyData} {Q : VK} (hn : σ.length = n) (sb1 : Sub P1 H1) (hJ : ItD K J ds σ (blankE n) P1 H1) (hlen : ds.length ≤ line) (el : lcNLoop g e n ds = some ys)
    (h : ∀ l bs H' P', Ext P1 H1 P' H' → H1 l = none → H' l = some (.lst (bs.map V.ref)) → P' l = none → BagsR K P' H' H1 l bs ys → Q (.ref l) H') :
    ∀ l, H1 l = none → ∃ W : Nat → Nat → Hp → Prop, (∃ m, W 0 m (upd H1 l (.lst []))) ∧ ∀ i m H, W i m H →
  (J.stop i H ∧ Q (.ref l) H) ∨ (J.go i H ∧ ∃ Nx : Hp → Prop, (∀ H', Nx H' → ∃ m', m' < m ∧ W (i + 1) m' H') ∧ ∀ x H', J.yld i H x H' → gDt K vs g x (wipe σ vs) H' fun σ2 H2 => wipe σ2 vs = wipe σ vs ∧ tYes σ2 H2 fun b H3 =>
    if b = true then eD K mg noX e σ2 H3 fun y H4 => ∃ acc, H4 l = some (.lst acc) ∧ acc.length < sizeLine ∧ Nx (upd H4 l (.lst (acc ++ [y]))) else Nx H3) := by
  intro l nl
  let St : Nat → Hp → Prop := fun i H2 => ∃ P2 bs done rest, Ext P1 H1 P2 H2 ∧ H2 l = some (.lst (bs.map V.ref)) ∧ P2 l = none ∧ BagsR K P2 H2 H1 l bs done ∧ bs.length = i ∧ lcNLoop g e n (ds.drop i) = some rest ∧ done ++ rest = ys
  refine ⟨fun i m H2 => m = ds.length - i ∧ i ≤ ds.length ∧ St i H2, ⟨ds.length, by simp, Nat.zero_le _, P1, [], [], ys, Ext.newO sb1 nl, upd_same, sb1.none nl, ⟨rfl, List.nodup_nil, fun i b y z => by simp at z⟩, rfl, el, rfl⟩, ?_⟩
  rintro i m H2 ⟨rfl, hi, P2, bs, done, rest, x2, hl, pl, B, lB, eL, eY⟩
  obtain ⟨hgo, hstop⟩ := hJ i σ (blankE n) P2 H2 (SR.blank x2.ph hn) (Stp.blank x2.keep x2.pkeep x2.sub)
  by_cases hlt : i < ds.length
  · have hd : ds[i]? = some ds[i] := List.getElem?_eq_getElem hlt
    obtain ⟨go, yld⟩ := hgo _ hd
    refine .inr ⟨go, St (i + 1), fun H' q => ⟨ds.length - (i + 1), by omega, rfl, hlt, q⟩, fun x H3 y => ?_⟩
    obtain ⟨P3, x3, r3⟩ := yld x H3 y
    rw [List.drop_eq_getElem_cons hlt] at eL
    unfold lcNLoop at eL
    refine ⟨P3, blankE n, ds[i], SR.blank x3.ph (by rw [wipe_length]; exact hn), r3, ?_⟩
    cases eg : g ds[i] (blankE n) with
    | none => rw [eg] at eL; cases eL
    | some δ4 =>
      rw [eg] at eL
      dsimp only at eL ⊢
      intro σ4 H4 P4 S4 s4 fr
      refine ⟨wipe_same (fr.1.trans (wipe_length _ _)) fr.2, ?_⟩
      change if true = true then eD K mg noX e σ4 H4 (fun y H4 => ∃ acc, H4 l = some (.lst acc) ∧ acc.length < sizeLine ∧ St (i + 1) (upd H4 l (.lst (acc ++ [y])))) else St (i + 1) H4
      rw [if_pos rfl]
      refine ⟨P4, δ4, S4, ?_⟩
      cases ee : e δ4 with
      | bad => rw [ee] at eL; cases eL
      | ex x δ5 => rw [ee] at eL; cases eL
      | ok rr δ5 =>
        rw [ee] at eL
        cases rr with
        | val d => cases eL
        | slot i => cases eL
        | new yd =>
          dsimp only at eL
          obtain ⟨rest', e6, e7⟩ := map1_some eL
          intro yv H5 P5 S5 s5 rv
          obtain ⟨b, rfl, n4, p5, _, _, o5⟩ := rv
          have x35 := blank_keep (s4.trans s5) S5
          have n3 : H3 b = none := live_back s4 n4
          have n2 : H2 b = none := by
            cases z : H2 b with
            | none => rfl
            | some o => rw [x3.keep b o z] at n3; cases n3
          have n1 : H1 b = none := by
            cases z : H1 b with
            | none => rfl
            | some o => rw [x2.keep b o z] at n2; cases n2
          have x25 := x3.trans x35
          have hl5 : H5 l = some (.lst (bs.map V.ref)) := x25.keep l _ hl
          have nbl : b ≠ l := fun z => by subst z; rw [hl] at n2; cases n2
          have pl5 : P5 l = none := by rw [x25.pkeep l _ hl]; exact pl
          refine ⟨_, hl5, by rw [List.length_map, lB, ← line_eq]; omega, P5, bs ++ [b], done ++ [yd], rest', ⟨fun c o z => ?_, fun c o z => ?_, x2.sub.trans x25.sub, fun c o z => ?_⟩, ?_, pl5, ?_, by rw [List.length_append, lB]; rfl, e6, by rw [List.append_assoc, ← eY, e7]; rfl⟩
          · have nc : c ≠ l := ne_of_none z nl
            rw [upd_ne nc]; exact x25.keep c o (x2.keep c o z)
          · rw [x25.pkeep c o (x2.keep c o z)]; exact x2.pkeep c o z
          · have nc : c ≠ l := fun q => by subst q; rw [pl5] at z; cases z
            rw [upd_ne nc]; exact S5.ph c o z
          · rw [upd_same, List.map_append]; rfl
          · refine BagsR.snoc (B.step x25.sub fun c hc => ?_) (fun hc => ?_) n1 nbl p5 (o5.step (Sub.refl _) fun o z => by rw [upd_ne nbl]; exact z)
            · obtain ⟨_, c2, _, yc, oc⟩ := B.mem hc
              obtain ⟨u, eu⟩ := oc.there
              exact ⟨x25.pkeep c u eu, fun o z => by rw [upd_ne c2]; exact x25.keep c o z⟩
            · obtain ⟨_, _, _, yc, oc⟩ := B.mem hc
              obtain ⟨u, eu⟩ := oc.there
              rw [eu] at n2; cases n2
  · left
    have ei : i = ds.length := by omega
    subst ei
    refine ⟨hstop rfl, ?_⟩
    rw [List.drop_length] at eL
    cases eL
    rw [List.append_nil] at eY
    subst eY
    exact h l bs H2 P2 x2 nl hl pl B
end
/-! ### _law_bags -/
def IsBag (y : PyData) : Prop := ∃ a b c : Int, y = .list [.int a, .int b, .int c] ∧ 0 ≤ a ∧ 0 ≤ b ∧ b < 2305843009213693951 ∧ 0 ≤ c ∧ c ≤ 1000000
def spBags (K : Bas) : Sp := fun vs H Q _ => ∃ (a : Addr) (ns : List Int) (m : Int), vs = [.ref a, .int m] ∧ SqL K.K H a (ns.map V.int) ∧ 0 ≤ m ∧ m ≤ 100 ∧ ∀ l bs ys H' P', (∀ b o, H b = some o → H' b = some o) → H l = none → H' l = some (.lst (bs.map V.ref)) → BagsR K P' H' H l bs ys → (∀ y ∈ ys, IsBag y) → Q (.ref l) H'
section
variable {P : Program} {w : World} {K : PySem.W.Frag} {mg : Str → Option Value} {base : Heap} {con : List (Str × D)} {exs : List Str} {tab : List (Str × Bool × FSem)} {k : Nat}
theorem cut_ints (ns : List Int) (m : Int) (h0 : 0 ≤ m) (h1 : m ≤ 100) : ∃ cs : List Int, cutV (ns.map V.int) none (some m) = cs.map V.int ∧ cs.length ≤ 100 := by
  unfold cutV
  rw [HT.sIx_none, List.drop_zero, Nat.sub_zero, ← List.map_take]
  refine ⟨_, rfl, ?_⟩
  rw [List.length_take]
  have : HT.sIx (ns.map V.int).length (ns.map V.int).length (some m) ≤ 100 := by
    obtain ⟨j, rfl⟩ := Int.eq_ofNat_of_zero_le h0
    rw [HT.sIx_nat]; omega
  omega
theorem rep_ints {K : Bas} {P : Hp} : ∀ ns : List Int, RepL K P (ns.map V.int) (ns.map PyData.int)
  | [] => .nil
  | n :: ns => .cons (.int n) (rep_ints ns)
theorem loop_bags {g : TgM} {e : M R} {n : Nat} (hm : ∀ (i : Nat) (c : Int), i ≤ 200 → ∃ δ1 y δ2, g (.tuple [.int (i : Nat), .int c]) (blankE n) = some δ1 ∧ e δ1 = .ok (.new y) δ2 ∧ IsBag y) : ∀ (cs : List Int) (j : Nat), j + cs.length ≤ 200 →
    ∃ ys, lcNLoop g e n ((cs.zipIdx j).map fun p => .tuple [.int (p.2 : Nat), .int p.1]) = some ys ∧ ∀ y ∈ ys, IsBag y
  | [], j, _ => ⟨[], rfl, fun y h => by cases h⟩
  | c :: cs, j, hl => by
    rw [List.length_cons] at hl
    obtain ⟨δ1, y, δ2, h1, h2, h3⟩ := hm j c (by omega)
    obtain ⟨ys, h4, h5⟩ := loop_bags hm cs (j + 1) (by omega)
    refine ⟨y :: ys, ?_, fun z hz => ?_⟩
    · rw [List.zipIdx_cons, List.map_cons]
      unfold lcNLoop
      dsimp only
      rw [h1]
      dsimp only
      rw [h2]
      dsimp only
      rw [h4]; rfl
    · rcases List.mem_cons.mp hz with rfl | hz
      · exact h3
      · exact h5 z hz
theorem bags_ok (Wd : Wd P w K mg con exs) (tb : TabOk P w K mg base k tab) {qual : Str} {st : Stmt} {f : Addr} {fd : FuncData} (F : Fun K "_law_bags" qual st f fd) (S : FnScope ["script", "most", "k", "cell"] ["script", "most"] (defScope st))
    {elt : Expr} {tgs : List Expr} {scope : Scope} {kk j2 : Nat} {p9 p10 p11 p12 p13 p14 p15 p16 p17 p18 p19 p20 : Pos} {g : TgM × List Nat} {fe : M R} {T : TC} (hT : T = tcOf ["script", "most", "k", "cell"] (defScope st) tab con exs [])
    (hst : defBody st = [.Return (some (.ListComp elt [⟨.Tuple tgs kk p9, .Call (.Name "enumerate" p10) [.BinOp (.Subscript (.Name "script" p11) (.Slice none (some (.Name "most" p12)) none p13) p14) .Add (.List [.Constant (.int 0) j2 p15] p16) p17] [] p18, [], 0⟩] scope p19)) p20])
    (h0 : slotO T "script" = some 0) (h1 : slotO T "most" = some 1) (h2 : glob T "enumerate" = true) (hb : blkB T.sc scope = true) (ho : (ownOf T.N scope).map (·.2) = [2, 3])
    (hg : (tr 60).g (blkT T scope) (.Tuple tgs kk p9) = some g) (hg2 : g.2 = [2, 3]) (he : (tr 60).e (blkT T scope) elt = some fe)
    (hm : ∀ (i : Nat) (c : Int), i ≤ 200 → ∃ δ1 y δ2, g.1 (.tuple [.int (i : Nat), .int c]) (blankE 4) = some δ1 ∧ fe δ1 = .ok (.new y) δ2 ∧ IsBag y) :
    FnOk P w K mg base (L2.CX P w) (k + 1) f fd ["script", "most"] (spBags ⟨P, w, K⟩) := by
  subst hT
  refine F.okX S (fun vs H Q E h => ?_) (fun cdv A outer s H vs Q E hr h => ?_)
  · obtain ⟨a, ns, m, rfl, _⟩ := h; rfl
  obtain ⟨a, ns, m, rfl, hS, m0, m1, q⟩ := h
  have G := good_of (E := E) (H := H) (s := s) (outer := outer) (cdv := cdv) (qual := qual) (f := f) Wd tb S hr []
  obtain ⟨s1, s2, s3, s4⟩ := G.slot h0
  obtain ⟨t1, t2, t3, t4⟩ := G.slot h1
  obtain ⟨g1, g2, _⟩ := G.gl h2
  rw [hst]
  have ok := (tr_ok 60)
  refine ⟨_, pss_one (ps_ret (pe_lc (te := eD ⟨P, w, K⟩ mg noX fe) (g := gDt ⟨P, w, K⟩ [2, 3] g.1) G.calm G.nd (pi_enumB g1 (Wd.blt _ (by decide +kernel)) (pa_cons (pe_op op_cat (pe_slice sl_list (pe_var s1 s2 s3 s4) po_none (po_some (pe_var t1 t2 t3 t4))) (pe_lst (pa_cons pe_int pa_nil rfl))) pa_nil rfl) rfl)
    (own := ownOf ["script", "most", "k", "cell"] scope) (blkB_ok hb) (fun s H C cl fp => ok.g _ _ g hg _ noX (G.toGood.blk ⟨s, H, C, cl, fp, rfl⟩) [2, 3] (by rw [hg2]; exact fun _ z => z)) (fun s H C cl fp => pts_nil) (fun s H C cl fp => ok.e _ _ fe he _ noX (G.toGood.blk ⟨s, H, C, cl, fp, rfl⟩)) (folded rfl))), ?_⟩
  have hσ : (L2.start ["script", "most", "k", "cell"] [V.ref a, V.int m]).length = 4 := rfl
  obtain ⟨cs, ec, lc⟩ := cut_ints ns m m0 m1
  refine ⟨.ref a, rfl, .int m, rfl, m, rfl, a, ns.map V.int, rfl, hS, fun c nc => ?_⟩
  refine ⟨by show 1 ≤ sizeLine; rw [sizeLine_eq]; decide, fun o no => ?_⟩
  have nco : c ≠ o := fun z => by subst z; rw [upd_same] at no; cases no
  have n1 : H o = none := by rw [upd_ne nco.symm] at no; exact no
  refine ⟨c, o, cs.map V.int, [.int 0], rfl, rfl, by rw [upd_ne nco, upd_same, ec], upd_same, by rw [List.length_map, sizeLine_eq]; show cs.length + 1 ≤ _; omega, fun l nl => ?_⟩
  have ncl : l ≠ c := fun z => by subst z; rw [upd_ne nco, upd_same] at nl; cases nl
  have nol : l ≠ o := fun z => by subst z; rw [upd_same] at nl; cases nl
  have n2 : H l = none := by rw [upd_ne nol, upd_ne ncl] at nl; exact nl
  have eL : cs.map V.int ++ [V.int 0] = (cs ++ [0]).map V.int := by rw [List.map_append]; rfl
  refine ⟨false, l, _, rfl, .inl (.inl upd_same), ?_⟩
  rw [eL]
  -- what is known: the list alone
  generalize hH1 : upd (upd (upd H c (.lst (cutV (ns.map V.int) none (some m)))) o (.lst [V.int 0])) l (.lst ((cs ++ [0]).map V.int)) = H1
  have hl1 : H1 l = some (.lst ((cs ++ [0]).map V.int)) := by rw [← hH1, upd_same]
  have keep1 : ∀ b u, H b = some u → H1 b = some u := fun b u e => by
    rw [← hH1, upd_ne (ne_of_none e n2), upd_ne (ne_of_none e n1), upd_ne (ne_of_none e nc)]; exact e
  let P1 : Hp := fun b => if b = l then H1 l else none
  have sb1 : Sub P1 H1 := fun b u e => by
    by_cases hb : b = l
    · subst hb; simpa [P1] using e
    · simp [P1, hb] at e
  have pl : P1 l = some (.lst ((cs ++ [0]).map V.int)) := by simp [P1, hl1]
  obtain ⟨ys, hy, hB⟩ := loop_bags hm (cs ++ [0]) 0 (by rw [List.length_append]; show 0 + (cs.length + 1) ≤ 200; omega)
  have hJ : ItD ⟨P, w, K⟩ (IteB K false l) (((cs ++ [0]).map PyData.int).zipIdx.map fun (p : PyData × Nat) => PyData.tuple [.int p.2, p.1]) (L2.start ["script", "most", "k", "cell"] [V.ref a, V.int m]) (blankE 4) P1 H1 := itD_e (show SqB K P1 false l _ from .inl (.inl pl)) (rep_ints _)
  have ez : (((cs ++ [0]).map PyData.int).zipIdx.map fun (p : PyData × Nat) => PyData.tuple [.int p.2, p.1]) = ((cs ++ [0]).zipIdx 0).map fun (p : Int × Nat) => PyData.tuple [.int (p.2 : Nat), .int p.1] := by
    rw [List.zipIdx_map, List.map_map]; rfl
  rw [ez] at hJ
  have ho' : (ownOf ["script", "most", "k", "cell"] scope).map (·.2) = [2, 3] := ho
  rw [ho']
  exact tLcN_of hσ sb1 hJ (by rw [List.length_map, List.length_zipIdx, List.length_append]; show cs.length + 1 ≤ 16777216; omega) hy
    fun l' bs H' P' x nl' hl' pl' B => q l' bs ys H' P' (fun b u e => x.keep b u (keep1 b u e)) (by
      cases z : H l' with
      | none => rfl
      | some u => rw [keep1 l' u z] at nl'; cases nl') hl' (⟨B.len, B.nd, fun i b y e1 e2 => by
        obtain ⟨b1, b2, b3, b4⟩ := B.at_ i b y e1 e2
        refine ⟨?_, b2, b3, b4⟩
        cases z : H b with
        | none => rfl
        | some u => rw [keep1 b u z] at b1; cases b1⟩) hB
/-! ### law -/
def spLaw (K : PySem.W.Frag) : Sp := fun vs H Q _ => ∃ (a : Addr) (ns : List Int), vs = [.ref a] ∧ SqL K H a (ns.map V.int) ∧ ∀ H', Q (.bl true) H'
/-- the slots ahead of a turn: the bag alone -/
def bagE (n : Nat) (y : PyData) : DEnv := none :: some (.own, y) :: blankE (n - 2)
theorem bagE_at {n i : Nat} {y d : PyData} {k : Kd} (h : At (bagE n y) i k d) : i = 1 ∧ k = .own ∧ d = y := by
  unfold At bagE at h
  match i, h with
  | 0, h => simp at h
  | 1, h => simp only [List.getElem?_cons_succ, List.getElem?_cons_zero, Option.some.injEq, Prod.mk.injEq] at h; exact ⟨rfl, h.1.symm, h.2.symm⟩
  | i + 2, h => exact (blank_no (n := n - 2) (i := i) (k := k) (d := d) (by unfold At; simpa using h)).elim
/-- the slots stay as many -/
theorem PSs.len {X : Cx} {b : List Stmt} {t : TS} (h : PSs X b t) : PSs X b (fun D σ H => t { D with nx := fun σ' H' => σ'.length = X.N.length → D.nx σ' H' } σ H) :=
  ⟨fun pins s σ H D I hw => thn (h.run pins s σ H _ I hw) fun f s' q => by
    cases f with
    | next => obtain ⟨σ', H', I', q⟩ := q; exact ⟨σ', H', I', q I'.len⟩
    | cont => exact q
    | brk => exact q
    | ret v => exact q⟩
theorem law_ok (Wd : Wd P w K mg con exs) (tb : TabOk P w K mg base k tab) {qual : Str} {st : Stmt} {f fB : Addr} {fd fdB : FuncData} {N' : List Str} {keep : List Nat} (F : Fun K "law" qual st f fd) (S : FnScope ("script" :: "bag" :: N') ["script"] (defScope st))
    {body : List Stmt} {j j2 : Nat} {m : Int} {p1 p2 p3 p4 p5 p6 p7 p8 : Pos} {t : SM}
    (hst : defBody st = [.For (.Name "bag" p1) (.Call (.Name "_law_bags" p2) [.Name "script" p3, .Constant (.int m) j p4] [] p5) body [] p6, .Return (some (.Constant (.bool true) j2 p7)) p8])
    (m0 : 0 ≤ m) (m1 : m ≤ 100)
    (FB : FnOk P w K mg base (L2.CX P w) k fB fdB ["script", "most"] (spBags ⟨P, w, K⟩)) (hm : mg "_law_bags" = some (.ref fB)) (hk : PySem.W.keepIn K (.ref fB) = true) (hbd : Binds K fdB ["script", "most"] [])
    (h0 : slotO (tcOf ("script" :: "bag" :: N') (defScope st) tab con exs keep) "script" = some 0) (h1 : storeO (tcOf ("script" :: "bag" :: N') (defScope st) tab con exs keep) "bag" = some 1) (h2 : glob (tcOf ("script" :: "bag" :: N') (defScope st) tab con exs keep) "_law_bags" = true)
    (hb : bodyS (tcOf ("script" :: "bag" :: N') (defScope st) tab con exs keep) body = some t)
    {n : Nat} (hn : N'.length + 2 = n) (ht : ∀ y, IsBag y → ∃ δ, t (bagE n y) = .nx δ) :
    FnOk P w K mg base (L2.CX P w) (k + 1) f fd ["script"] (spLaw K) := by
  refine F.okX S (fun vs H Q E h => ?_) (fun cdv A outer s H vs Q E hr h => ?_)
  · obtain ⟨a, ns, rfl, _⟩ := h; rfl
  obtain ⟨a, ns, rfl, hS, q⟩ := h
  have G := good_of (E := E) (H := H) (s := s) (outer := outer) (cdv := cdv) (qual := qual) (f := f) Wd tb S hr keep
  obtain ⟨s1, s2, s3, s4⟩ := G.slot h0
  obtain ⟨t1, t2, t3⟩ := G.store h1
  obtain ⟨g1, g2, _⟩ := G.gl h2
  rw [hst]
  refine ⟨_, pss_cons (ps_for G.pass G.calm (pi_list (pe_callSD FB hr g1 hm hk hbd .nil (fun σ => passAt G.tk σ) (pa_cons (pe_var s1 s2 s3 s4) (pa_cons pe_int pa_nil rfl) rfl) g2 rfl rfl)) (pg_name S.nd t1 t2 t3) (PSs.len (bodyS_ok hb G)) (folded rfl)) (pss_one (ps_ret pe_bl)), ?_⟩
  have hlen : (L2.start ("script" :: "bag" :: N') [V.ref a]).length = n := (start_len (by show 1 ≤ N'.length + 1 + 1; omega)).trans (by show N'.length + 1 + 1 = n; omega)
  refine ⟨.ref a, rfl, a, ns, m, rfl, hS, m0, m1, fun l bs ys H1 P1 keep1 nl hl B hB => ?_⟩
  refine ⟨l, rfl, ⟨_, .inl (.inl hl)⟩, fun i mm σ H2 => mm = bs.length - i ∧ i ≤ bs.length ∧ σ.length = n ∧ H2 l = some (.lst (bs.map V.ref)) ∧ ∀ (z : Nat) b y, i ≤ z → bs[z]? = some b → ys[z]? = some y → OwnR ⟨P, w, K⟩ (fun _ => none) H2 b y, ⟨bs.length, by simp, Nat.zero_le _, hlen, hl, fun z b y _ e1 e2 => ?_⟩, ?_⟩
  · obtain ⟨_, _, _, o⟩ := B.at_ z b y e1 e2
    obtain ⟨a1, a2, a3, rfl, _⟩ := hB y (List.mem_of_getElem? e2)
    obtain ⟨vs, ev, r⟩ := o.list'
    refine .lst ev ?_
    have : vs = [.int a1, .int a2, .int a3] := by
      cases r with | cons x1 r => cases x1; cases r with | cons x2 r => cases x2; cases r with | cons x3 r => cases x3; cases r; rfl
    rw [this]
    exact .cons (.int _) (.cons (.int _) (.cons (.int _) .nil))
  rintro i mm σ H2 ⟨rfl, hi, hσ, hl2, hO⟩
  by_cases hlt : i < bs.length
  · right
    have eb : bs[i]? = some bs[i] := List.getElem?_eq_getElem hlt
    have hys : i < ys.length := by rw [← B.len]; exact hlt
    have ey : ys[i]? = some ys[i] := List.getElem?_eq_getElem hys
    have hx : (bs.map V.ref)[i]? = some (V.ref bs[i]) := by rw [List.getElem?_map, eb]; rfl
    refine ⟨⟨_, _, .inl (.inl hl2), hx⟩, fun σ' H' => σ'.length = n ∧ H' l = some (.lst (bs.map V.ref)) ∧ ∀ (z : Nat) b y, i + 1 ≤ z → bs[z]? = some b → ys[z]? = some y → OwnR ⟨P, w, K⟩ (fun _ => none) H' b y, fun σ' H' ⟨n1, n2, n3⟩ => ⟨bs.length - (i + 1), by omega, rfl, hlt, n1, n2, n3⟩, fun x H' ⟨e, hx'⟩ => ?_⟩
    subst e
    have ex := hx' _ (.inl (.inl hl2))
    rw [hx] at ex
    obtain rfl := Option.some.inj ex
    have oi := hO i _ _ (Nat.le_refl _) eb ey
    obtain ⟨δ', hδ⟩ := ht _ (hB _ (List.mem_of_getElem? ey))
    have h2n : 2 ≤ n := by omega
    have hlen2 : (σ.set 1 (some (V.ref bs[i]))).length = (bagE n ys[i]).length := by
      rw [List.length_set, hσ]; unfold bagE blankE; rw [List.length_cons, List.length_cons, List.length_replicate]; omega
    have S0 : SR ⟨P, w, K⟩ (fun _ => none) H' (σ.set 1 (some (V.ref bs[i]))) (bagE n ys[i]) := by
      refine ⟨hlen2, fun b o e => (nomatch (show (none : Option HO) = some o from e)), fun i' k' d h => ?_, fun i1 i2 k1 k2 d1 d2 b h1 h2 _ _ _ _ => (bagE_at h1).1.trans (bagE_at h2).1.symm⟩
      obtain ⟨rfl, rfl, rfl⟩ := bagE_at h
      exact ⟨_, List.getElem?_set_self (by omega), bs[i], rfl, rfl, oi⟩
    refine ⟨_, _, S0, ?_⟩
    rw [hδ]
    intro σ' H'' P'' S' s'
    -- what the body leaves alone
    have stay : ∀ b o, H' b = some o → b ≠ bs[i] → H'' b = some o := fun b o e nb => s'.keep b o e (fun ⟨i1, d1, h1, q1⟩ => by
      obtain ⟨rfl, _, _⟩ := bagE_at h1
      rw [List.getElem?_set_self (by omega)] at q1
      cases q1; exact nb rfl) fun ⟨i1, d1, h1, _⟩ => by
      obtain ⟨_, z, _⟩ := bagE_at h1; cases z
    have nbl : l ≠ bs[i] := fun z => (B.at_ i _ _ eb ey).2.1 z.symm
    intro hσ'
    refine ⟨hσ'.trans (by show N'.length + 2 = n; exact hn), stay l _ hl2 nbl, fun z b y hz e1 e2 => ?_⟩
    have o := hO z b y (by omega) e1 e2
    obtain ⟨a1, a2, a3, e3, _⟩ := hB y (List.mem_of_getElem? e2)
    have nb : b ≠ bs[i] := fun q => by
      have := (List.getElem?_inj (List.getElem?_eq_some_iff.mp e1).1 B.nd).mp (e1.trans (by rw [q, eb]))
      omega
    exact o.step (Sub.refl _) fun o' e' => stay b o' e' nb
  · left
    have ei : i = bs.length := by omega
    subst ei
    refine ⟨⟨_, .inl (.inl hl2), by rw [List.length_map]; exact Nat.le_refl _⟩, ?_⟩
    exact q H2
end
end DL

/-! # DL, part 20: how combinators compute: equations. -/
namespace DL
open PySem PySem.Spec PyProof.Rows L2

/-! ### results -/
def Res.bd {α β : Type} (r : Res α) (g : α → DEnv → Res β) : Res β := match r with
  | .ok a δ => g a δ
  | .ex x δ => .ex x δ
  | .bad => .bad
section
variable {α β : Type} {a : α} {δ δ1 : DEnv} {x : Exc} {g : α → DEnv → Res β}
theorem bd_ok : Res.bd (.ok a δ) g = g a δ := rfl
theorem bd_ex : Res.bd (.ex x δ) g = .ex x δ := rfl
theorem bd_bad : Res.bd (.bad : Res α) g = .bad := rfl
theorem q_bind {f : M α} {h : α → M β} : DL.bindM f h δ = Res.bd (f δ) h := by
  unfold DL.bindM Res.bd; cases f δ <;> rfl
theorem q_bindF {f : M α} {h : α → M β} : DL.bindM f h = fun δ => Res.bd (f δ) h := funext fun _ => q_bind
theorem q_pure : pureM a δ = .ok a δ := rfl
theorem q_badM : (badM : M α) δ = .bad := rfl
theorem q_optS : optM (some a) δ = .ok a δ := rfl
theorem q_optN : optM (none : Option α) δ = .bad := rfl
end
def SRes.sq (r : SRes) (u : DEnv → SRes) : SRes := match r with
  | .nx δ => u δ
  | r => r
section
variable {u t : SM} {δ : DEnv} {x : Exc} {fr : Bool} {d : D}
theorem sq_nx : SRes.sq (.nx δ) u = u δ := rfl
theorem sq_rt : SRes.sq (.rt fr d δ) u = .rt fr d δ := rfl
theorem sq_ex : SRes.sq (.ex x δ) u = .ex x δ := rfl
theorem sq_bad : SRes.sq .bad u = .bad := rfl
theorem q_seq : seqS t u δ = SRes.sq (t δ) u := by
  unfold seqS SRes.sq; cases t δ <;> rfl
theorem q_pass : passS δ = .nx δ := rfl
theorem of_ok {α : Type} {a : α} {k : α → DEnv → SRes} : ofRes (.ok a δ) k = k a δ := rfl
theorem of_ex {α : Type} {k : α → DEnv → SRes} : ofRes (.ex x δ) k = .ex x δ := rfl
theorem of_bad {α : Type} {k : α → DEnv → SRes} : ofRes .bad k = .bad := rfl
theorem q_expr {f : M R} : exprS f δ = ofRes (f δ) fun _ δ' => .nx δ' := rfl
theorem q_if {c : M Bool} : ifS c t u δ = ofRes (c δ) fun b δ' => if b = true then t δ' else u δ' := rfl
def retR (r : R) (δ : DEnv) : SRes := match r with
  | .val d => .rt false d δ
  | .new d => .rt true d δ
  | .slot i => match δ[i]? with
    | some (some (.own, d)) => .rt true d (δ.set i none)
    | _ => .bad
theorem q_ret {f : M R} : retS f δ = ofRes (f δ) retR := rfl
theorem ret_val : retR (.val d) δ = .rt false d δ := rfl
theorem ret_new : retR (.new d) δ = .rt true d δ := rfl
theorem ret_slot {i : Nat} {d : D} (h : δ[i]? = some (some (.own, d))) : retR (.slot i) δ = .rt true d (δ.set i none) := by unfold retR; simp only [h]
theorem q_raise {x : Str} : raiseS x δ = .ex ⟨x, []⟩ δ := rfl
end
/-! ### slots -/
section
variable {δ : DEnv} {i : Nat} {d : D} {fr : Bool} {f fa fb fc : M R} {g g' : D → D → Option (Bool × D)} {g1 : D → Option (Bool × D)}
def slotV (i : Nat) (o : Option (Option (Kd × D))) (δ : DEnv) : Res R := match o with
  | some (some (.pers, d)) => .ok (.val d) δ
  | some (some (_, _)) => .ok (.slot i) δ
  | _ => .bad
theorem q_var : varM i δ = slotV i δ[i]? δ := by
  unfold varM slotV
  cases δ[i]? with
  | none => rfl
  | some o => cases o with
    | none => rfl
    | some p => obtain ⟨k, d⟩ := p; cases k <;> rfl
theorem sv_pers : slotV i (some (some (.pers, d))) δ = .ok (.val d) δ := rfl
theorem sv_own : slotV i (some (some (.own, d))) δ = .ok (.slot i) δ := rfl
theorem sv_bor : slotV i (some (some (.bor, d))) δ = .ok (.slot i) δ := rfl
theorem q_con : conM d δ = .ok (.val d) δ := rfl
theorem q_datV : datM (.val d) δ = .ok d δ := rfl
theorem q_datN : datM (.new d) δ = .ok d δ := rfl
def slotD (o : Option (Option (Kd × D))) (δ : DEnv) : Res D := match o with
  | some (some (_, d)) => .ok d δ
  | _ => .bad
theorem q_datS : datM (.slot i) δ = slotD δ[i]? δ := by
  unfold datM dat slotD
  dsimp only
  cases e : δ[i]? with
  | none => simp
  | some o => cases o with
    | none => simp
    | some p => simp
theorem sd_some {k : Kd} : slotD (some (some (k, d))) δ = .ok d δ := rfl
theorem q_optRS : optR (some (fr, d)) δ = .ok (resR fr d) δ := rfl
theorem q_optRN : optR none δ = .bad := rfl
theorem res_t : resR true d = .new d := rfl
theorem res_f : resR false d = .val d := rfl
theorem q_bin2 : bin2 g fa fb δ = Res.bd (fa δ) fun r δ => Res.bd (fb δ) fun q δ => Res.bd (datM r δ) fun d δ => Res.bd (datM q δ) fun e δ => optR (g d e) δ := by
  unfold bin2; simp only [q_bindF]
theorem q_un1 : un1 g1 fa δ = Res.bd (fa δ) fun r δ => Res.bd (datM r δ) fun d δ => optR (g1 d) δ := by
  unfold un1; simp only [q_bindF]
def persR (r : R) (δ : DEnv) : Res D := match r with
  | .val d => .ok d δ
  | .new d => .ok d δ
  | .slot i => match δ[i]? with
    | some (some (.own, d)) => .ok d (δ.set i (some (.pers, d)))
    | _ => .bad
theorem q_persM : persM f δ = Res.bd (f δ) persR := by
  unfold persM; rw [q_bind]; congr 1
theorem pr_val : persR (.val d) δ = .ok d δ := rfl
theorem pr_new : persR (.new d) δ = .ok d δ := rfl
def slotP (i : Nat) (o : Option (Option (Kd × D))) (δ : DEnv) : Res D := match o with
  | some (some (.own, d)) => .ok d (δ.set i (some (.pers, d)))
  | _ => .bad
theorem pr_slot : persR (.slot i) δ = slotP i δ[i]? δ := by
  unfold persR slotP; rfl
theorem sp_own : slotP i (some (some (.own, d))) δ = .ok d (δ.set i (some (.pers, d))) := rfl
theorem q_mvM : mvM f δ = Res.bd (f δ) mvR := q_bind
theorem mv_val : mvR (.val d) δ = .ok (.val d) δ := rfl
theorem mv_new : mvR (.new d) δ = .ok (.new d) δ := rfl
def slotM (i : Nat) (o : Option (Option (Kd × D))) (δ : DEnv) : Res R := match o with
  | some (some (.own, d)) => .ok (.val d) (δ.set i (some (.pers, d)))
  | _ => .bad
theorem mv_slot : mvR (.slot i) δ = slotM i δ[i]? δ := rfl
theorem sm_own : slotM i (some (some (.own, d))) δ = .ok (.val d) (δ.set i (some (.pers, d))) := rfl
theorem q_set : setS i f δ = ofRes (mvM f δ) (putR i) := rfl
def freeO (o : Option (Option (Kd × D))) : Bool := match o with
  | some (some (.bor, _)) => false
  | some (some (.lck, _)) => false
  | some _ => true
  | none => false
theorem q_free : free δ i = freeO δ[i]? := rfl
theorem fr_none : freeO (some none) = true := rfl
theorem fr_pers : freeO (some (some (.pers, d))) = true := rfl
theorem fr_own : freeO (some (some (.own, d))) = true := rfl
theorem put_val : putR i (.val d) δ = if free δ i = true then .nx (δ.set i (some (.pers, d))) else .bad := by
  unfold putR putO; dsimp only; by_cases h : free δ i = true
  · rw [if_pos h, if_pos h]; rfl
  · rw [if_neg h, if_neg h]; rfl
theorem put_new : putR i (.new d) δ = if free δ i = true then .nx (δ.set i (some (.own, d))) else .bad := by
  unfold putR putO; dsimp only; by_cases h : free δ i = true
  · rw [if_pos h, if_pos h]; rfl
  · rw [if_neg h, if_neg h]; rfl
theorem q_not {b : M Bool} : notB b δ = Res.bd (b δ) fun b δ => .ok (!b) δ := q_bind
theorem q_andB {b c : M Bool} : andB b c δ = Res.bd (b δ) fun b δ => if b = true then c δ else .ok false δ := by
  unfold andB; rw [q_bind]; congr 1; funext b δ; by_cases h : b = true <;> simp [h, pureM]
theorem q_orB {b c : M Bool} : orB b c δ = Res.bd (b δ) fun b δ => if b = true then .ok true δ else c δ := by
  unfold orB; rw [q_bind]; congr 1; funext b δ; by_cases h : b = true <;> simp [h, pureM]
def boolR (r : R) (δ : DEnv) : Res Bool := match r with
  | .val (.bool b) => .ok b δ
  | _ => .bad
theorem q_boolM : boolM f δ = Res.bd (f δ) boolR := by
  unfold boolM; rw [q_bind]; congr 1; funext r δ
  cases r with
  | val d => cases d <;> rfl
  | new d => rfl
  | slot i => rfl
theorem br_bool {b : Bool} : boolR (.val (.bool b)) δ = .ok b δ := rfl
theorem q_andM : andM fa fb δ = Res.bd (boolM fa δ) fun b δ => if b = true then fb δ else .ok (.val (.bool false)) δ := by
  unfold andM; rw [q_bind]; congr 1; funext b δ; by_cases h : b = true <;> simp [h, pureM]
theorem q_orM : orM fa fb δ = Res.bd (boolM fa δ) fun b δ => if b = true then .ok (.val (.bool true)) δ else fb δ := by
  unfold orM; rw [q_bind]; congr 1; funext b δ; by_cases h : b = true <;> simp [h, pureM]
theorem q_notM : notM fa δ = Res.bd (boolM fa δ) fun b δ => .ok (.val (.bool (!b))) δ := q_bind
theorem q_ifM {c : M Bool} : ifM c fa fb δ = Res.bd (c δ) fun b δ => if b = true then fa δ else fb δ := by
  unfold ifM; rw [q_bind]; congr 1; funext b δ; by_cases h : b = true <;> simp [h]
def chnR (g' : D → D → Option (Bool × D)) (q : R) (fc : M R) (o : Option (Bool × D)) (δ : DEnv) : Res R := match o with
  | some (false, .bool b) => if b = true then Res.bd (fc δ) (fun p δ => Res.bd (datM q δ) fun e' δ => Res.bd (datM p δ) fun c δ => optR (g' e' c) δ) else .ok (.val (.bool false)) δ
  | _ => .bad
theorem q_chn2 : chn2 g g' fa fb fc δ = Res.bd (fa δ) fun r δ => Res.bd (fb δ) fun q δ => Res.bd (datM r δ) fun d δ => Res.bd (datM q δ) fun e δ => chnR g' q fc (g d e) δ := by
  unfold chn2; simp only [q_bindF]; congr 1; funext r δ; congr 1; funext q δ; congr 1; funext d δ; congr 1; funext e δ
  unfold chnR
  cases e0 : g d e with
  | none => rfl
  | some p =>
    obtain ⟨fr, z⟩ := p
    cases fr with
    | true => rfl
    | false =>
      cases z with
      | bool b =>
        dsimp only
        by_cases h : b = true
        · rw [if_pos h, if_pos h]
        · rw [if_neg h, if_neg h]; rfl
      | _ => rfl
theorem ch_bool {q : R} {b : Bool} : chnR g' q fc (some (false, .bool b)) δ = if b = true then Res.bd (fc δ) (fun p δ => Res.bd (datM q δ) fun e' δ => Res.bd (datM p δ) fun c δ => optR (g' e' c) δ) else .ok (.val (.bool false)) δ := rfl
/-! ### lists, calls -/
theorem q_cons {fd : M D} {fr : M (List D)} : consM fd fr δ = Res.bd (fd δ) fun d δ => Res.bd (fr δ) fun ds δ => .ok (d :: ds) δ := by
  unfold consM; simp only [q_bindF]; rfl
theorem q_nil : nilM δ = .ok [] δ := rfl
theorem q_tup {fs : M (List D)} : tupM fs δ = Res.bd (fs δ) fun ds δ => .ok (.val (.tuple ds)) δ := q_bind
theorem q_lst {fs : M (List D)} : lstM fs δ = Res.bd (fs δ) fun ds δ => .ok (.new (.list ds)) δ := q_bind
theorem q_opd1 : opd1 fa δ = Res.bd (fa δ) fun r δ => Res.bd (datM r δ) fun d δ => .ok [d] δ := by
  unfold opd1; simp only [q_bindF]; rfl
theorem q_opd2 : opd2 fa fb δ = Res.bd (fa δ) fun r δ => Res.bd (fb δ) fun q δ => Res.bd (datM r δ) fun d δ => Res.bd (datM q δ) fun e δ => .ok [d, e] δ := by
  unfold opd2; simp only [q_bindF]; rfl
theorem q_callM {h : List D → Option (Bool × D)} {fs : M (List D)} : callM h fs δ = Res.bd (fs δ) fun ds δ => optR (h ds) δ := by
  unfold callM; simp only [q_bindF]
def frR (r : FRes) (δ : DEnv) : Res R := match r with
  | .ok fr d _ => .ok (resR fr d) δ
  | .ex x _ => .ex x δ
  | .bad => .bad
theorem q_callF {h : FSem} {fs : M (List D)} : callF h fs δ = Res.bd (fs δ) fun ds δ => frR (h ds) δ := by
  unfold callF; rw [q_bind]; congr 1
theorem fr_ok {b : D} : frR (.ok fr d b) δ = .ok (resR fr d) δ := rfl
theorem fr_ex {x : Exc} {b : D} : frR (.ex x b) δ = .ex x δ := rfl
theorem fr_bad : frR .bad δ = .bad := rfl
def fbR (i : Nat) (k : Kd) (r : FRes) (δ : DEnv) : Res R := match r with
  | .ok fr d c' => .ok (resR fr d) (δ.set i (some (k, c')))
  | .ex x c' => .ex x (δ.set i (some (k, c')))
  | .bad => .bad
def lendR (i : Nat) (h : FSem) (ds : List D) (o : Option (Option (Kd × D))) (δ : DEnv) : Res R := match o with
  | some (some (.own, c)) => fbR i .own (h (c :: ds)) δ
  | some (some (.bor, c)) => fbR i .bor (h (c :: ds)) δ
  | _ => .bad
theorem q_callB {h : FSem} {fs : M (List D)} : callB i h fs δ = if has δ i = true then Res.bd (fs δ) (fun ds δ => lendR i h ds δ[i]? δ) else .bad := by
  unfold callB
  by_cases hh : has δ i = true
  · rw [if_pos hh, if_pos hh, q_bind]; congr 1; funext ds δ
    unfold lendR
    cases e : δ[i]? with
    | none => rfl
    | some o => cases o with
      | none => rfl
      | some p =>
        obtain ⟨k, c⟩ := p
        cases k with
        | pers => rfl
        | lck => rfl
        | own => dsimp only; rw [if_pos (.inl rfl)]; unfold fbR; cases h (c :: ds) <;> rfl
        | bor => dsimp only; rw [if_pos (.inr rfl)]; unfold fbR; cases h (c :: ds) <;> rfl
  · rw [if_neg hh, if_neg hh]
theorem ld_own {h : FSem} {ds : List D} {c : D} : lendR i h ds (some (some (.own, c))) δ = fbR i .own (h (c :: ds)) δ := rfl
theorem ld_bor {h : FSem} {ds : List D} {c : D} : lendR i h ds (some (some (.bor, c))) δ = fbR i .bor (h (c :: ds)) δ := rfl
theorem fb_ok {k : Kd} {c : D} : fbR i k (.ok fr d c) δ = .ok (resR fr d) (δ.set i (some (k, c))) := rfl
theorem fb_ex {k : Kd} {c : D} {x : Exc} : fbR i k (.ex x c) δ = .ex x (δ.set i (some (k, c))) := rfl
def hasO (o : Option (Option (Kd × D))) : Bool := match o with
  | some (some _) => true
  | _ => false
theorem q_has : has δ i = hasO δ[i]? := rfl
theorem has_some {p : Kd × D} : hasO (some (some p)) = true := rfl
/-! ### stores into one's own -/
def okS {α : Type} (r : Res α) (k : α → DEnv → SRes) : SRes := match r with
  | .ok a δ => k a δ
  | _ => .bad
theorem os_ok {α : Type} {a : α} {k : α → DEnv → SRes} : okS (.ok a δ) k = k a δ := rfl
def nxS (δ : DEnv) (i : Nat) (k : Kd) (o : Option D) : SRes := match o with
  | some c => .nx (δ.set i (some (k, c)))
  | none => .bad
theorem ns_some {k : Kd} {c : D} : nxS δ i k (some c) = .nx (δ.set i (some (k, c))) := rfl
def mutS (δ : DEnv) (i : Nat) (g : D → Option D) (o : Option (Option (Kd × D))) : SRes := match o with
  | some (some (.own, c)) => nxS δ i .own (g c)
  | some (some (.bor, c)) => nxS δ i .bor (g c)
  | _ => .bad
theorem ms_own {h : D → Option D} {c : D} : mutS δ i h (some (some (.own, c))) = nxS δ i .own (h c) := rfl
theorem ms_bor {h : D → Option D} {c : D} : mutS δ i h (some (some (.bor, c))) = nxS δ i .bor (h c) := rfl
theorem q_st {fk fv : M R} : stS i fk fv δ = ofRes (persM fv δ) fun d δ1 => if has δ1 i = true then okS (Res.bd (fk δ1) datM) (fun k δ2 => mutS δ2 i (fun c => setD c k d) δ2[i]?) else .bad := by
  unfold stS
  congr 1; funext d δ1
  by_cases h : has δ1 i = true
  · rw [if_pos h, if_pos h]
    unfold okS okO
    rw [← q_bind]
    cases DL.bindM fk datM δ1 with
    | bad => rfl
    | ex x δ2 => rfl
    | ok k δ2 =>
      dsimp only
      unfold mutS mutO nxS
      cases δ2[i]? with
      | none => rfl
      | some o => cases o with
        | none => rfl
        | some p =>
          obtain ⟨kd, c⟩ := p
          cases kd with
          | pers => rfl
          | lck => rfl
          | own => dsimp only; cases setD c k d <;> rfl
          | bor => dsimp only; cases setD c k d <;> rfl
  · rw [if_neg h, if_neg h]; rfl
def mvT (δ : DEnv) (i : Nat) (k : Kd) (o : Option (D × D)) : Res R := match o with
  | some (c', r) => .ok (.val r) (δ.set i (some (k, c')))
  | none => .bad
theorem mt_some {k : Kd} {c r : D} : mvT δ i k (some (c, r)) = .ok (.val r) (δ.set i (some (k, c))) := rfl
def mutT (δ : DEnv) (i : Nat) (g : D → Option (D × D)) (o : Option (Option (Kd × D))) : Res R := match o with
  | some (some (.own, c)) => mvT δ i .own (g c)
  | some (some (.bor, c)) => mvT δ i .bor (g c)
  | _ => .bad
theorem mu_own {h : D → Option (D × D)} {c : D} : mutT δ i h (some (some (.own, c))) = mvT δ i .own (h c) := rfl
theorem mu_bor {h : D → Option (D × D)} {c : D} : mutT δ i h (some (some (.bor, c))) = mvT δ i .bor (h c) := rfl
theorem q_mutV {h : D → Option (D × D)} : mutV δ i h = mutT δ i h δ[i]? := by
  unfold mutV mutT mvT
  cases δ[i]? with
  | none => rfl
  | some o => cases o with
    | none => rfl
    | some p =>
      obtain ⟨kd, c⟩ := p
      cases kd with
      | pers => rfl
      | lck => rfl
      | own => rfl
      | bor => rfl
def ownO (T : String) (o : Option (Option (Kd × D))) : Bool := match o with
  | some (some (.own, c)) => isT T c
  | some (some (.bor, c)) => isT T c
  | _ => false
theorem q_ownT {T : String} : ownT T δ i = ownO T δ[i]? := rfl
theorem ow_own {c : List D} : ownO "list" (some (some (.own, .list c))) = true := rfl
theorem ow_bor {c : List D} : ownO "list" (some (some (.bor, .list c))) = true := rfl
theorem q_m1 {T : String} {h : D → D → Option (D × D)} {f : M R} : m1M T i h f δ = if ownT T δ i = true then Res.bd (persM f δ) (fun d δ1 => mutV δ1 i fun c => h c d) else .bad := by
  unfold m1M
  by_cases hh : ownT T δ i = true
  · rw [if_pos hh, if_pos hh, q_bind]
  · rw [if_neg hh, if_neg hh]
theorem q_m0 {T : String} {h : D → Option (D × D)} : m0M T i h δ = if ownT T δ i = true then mutV δ i h else .bad := rfl
theorem appD_list {xs : List D} {d : D} (h : xs.length < line) : appD (.list xs) d = some (.list (xs ++ [d]), .none) := if_pos h
/-! ### targets, loops -/
theorem q_tgN {d : D} : tgN i d δ = if free δ i = true then some (δ.set i (some (.pers, d))) else none := rfl
def tgR (g : TgM) (d : D) (δ : DEnv) : SRes := match g d δ with
  | some δ2 => .nx δ2
  | none => .bad
theorem q_tg {g : TgM} {f : M R} : tgS g f δ = ofRes (persM f δ) (tgR g) := rfl
def tgO (o : Option DEnv) : SRes := match o with
  | some δ2 => .nx δ2
  | none => .bad
theorem q_tgR {g : TgM} {d : D} : tgR g d δ = tgO (g d δ) := rfl
theorem to_some : tgO (some δ) = .nx δ := rfl
theorem tgT_tup {r : List D → DEnv → Option DEnv} {ds : List D} : tgT r (.tuple ds) δ = r ds δ := rfl
theorem tgT_lst {r : List D → DEnv → Option DEnv} {ds : List D} : tgT r (.list ds) δ = r ds δ := rfl
theorem tgC_cons {g : TgM} {r : List D → DEnv → Option DEnv} {d : D} {ds : List D} : tgCons g r (d :: ds) δ = (g d δ).bind (r ds) := rfl
theorem tgN_nil : tgNil [] δ = some δ := rfl
theorem q_for {fi : M (List D)} {g : TgM} {b : SM} {fg : List Nat} : forS fi g b fg δ = ofRes (fi δ) (loopS g b fg) := rfl
theorem q_map1 {α β : Type} {f : M α} {g : α → Option β} : mapM1 f g δ = Res.bd (f δ) fun a δ => optM (g a) δ := q_bind
theorem q_walk : walkM fa δ = Res.bd (persM fa δ) fun d δ => optM (walkO d) δ := by
  unfold walkM mapM1; rw [q_bind]
theorem wo_list {xs : List D} : walkO (.list xs) = some xs := rfl
theorem wo_tup {xs : List D} : walkO (.tuple xs) = some xs := rfl
theorem so_list {xs : List D} : seqO (.list xs) = some xs := rfl
theorem so_tup {xs : List D} : seqO (.tuple xs) = some xs := rfl
end
end DL

/-! # DL, part 21: how operations compute: equations. -/
namespace DL
open PySem PySem.Spec PyProof.Rows L2

section
variable {i j : Int} {xs ys : List D} {d e : D} {b c : Bool}
theorem e_add : addD (.int i) (.int j) = some (false, .int (i + j)) := rfl
theorem e_addL (h : xs.length + ys.length ≤ line) : addD (.list xs) (.list ys) = some (true, .list (xs ++ ys)) := if_pos h
theorem e_addT (h : xs.length + ys.length ≤ line) : addD (.tuple xs) (.tuple ys) = some (false, .tuple (xs ++ ys)) := if_pos h
theorem e_sub : subD (.int i) (.int j) = some (false, .int (i - j)) := rfl
theorem e_neg : negD (.int i) = some (false, .int (-i)) := rfl
theorem e_mod (h : 0 < j) : modD (.int i) (.int j) = some (false, .int (i % j)) := if_pos h
/-- of so many bits -/
def Sm (n : Nat) (i : Int) : Prop := i.natAbs < 2 ^ n
theorem Sm.mono {n m : Nat} (h : Sm n i) (l : n ≤ m) : Sm m i := Nat.lt_of_lt_of_le h (Nat.pow_le_pow_right (by decide) l)
theorem Sm.mul {n m : Nat} (h : Sm n i) (h' : Sm m j) : Sm (n + m) (i * j) := by
  unfold Sm at *
  rw [Int.natAbs_mul, Nat.pow_add]
  exact Nat.mul_lt_mul'' h h'
theorem Sm.add {n : Nat} (h : Sm n i) (h' : Sm n j) : Sm (n + 1) (i + j) := by
  unfold Sm at *
  have := Int.natAbs_add_le i j
  rw [Nat.pow_succ]; omega
theorem Sm.sub {n : Nat} (h : Sm n i) (h' : Sm n j) : Sm (n + 1) (i - j) := by
  unfold Sm at *
  have : (i - j).natAbs ≤ i.natAbs + j.natAbs := by omega
  rw [Nat.pow_succ]; omega
theorem Sm.log {n : Nat} (h : Sm n i) : i.natAbs.log2 ≤ n := by
  unfold Sm at h
  by_cases z : i.natAbs = 0
  · rw [z]; simp
  · have := (Nat.log2_lt z).mpr h
    omega
theorem sm_of {n : Nat} (h : -(2 ^ n : Nat) < i) (h' : i < (2 ^ n : Nat)) : Sm n i := by
  unfold Sm; omega
theorem e_mul {n m : Nat} (h : Sm n i) (h' : Sm m j) (l : n + m < 1000000) : mulD (.int i) (.int j) = some (false, .int (i * j)) := if_pos (by have := h.log; have := h'.log; omega)
/-- below a thousand bits each -/
def sm1 (i : Int) : Prop := Sm 1000 i
theorem e_mul1 (h : sm1 i) (h' : sm1 j) : mulD (.int i) (.int j) = some (false, .int (i * j)) := e_mul h h' (by decide)
theorem e_fdiv {n : Nat} (h : 0 < j) (h' : Sm n j) (l : n < 9000) : fdivD (.int i) (.int j) = some (false, .int (i / j)) := if_pos ⟨h, by have := h'.log; omega⟩
theorem e_fdiv1 (h : 0 < j) (h' : sm1 j) : fdivD (.int i) (.int j) = some (false, .int (i / j)) := e_fdiv h h' (by decide)
theorem e_pow (h0 : 0 ≤ j) (h1 : j ≤ 1000000) (h2 : i.natAbs < 18446744073709551616) : powD (.int i) (.int j) = some (false, .int (i ^ j.toNat)) := if_pos ⟨h0, h1, h2⟩
theorem smI (i : Int) : sm (.int i) = true := by simp [sm, PyData.plain, PyData.depth]
theorem lt_int' : lt' (.int i) (.int j) = true := by unfold DL.lt'; rw [smI, smI]; simp [PySem.W.alike, notNone]
theorem e_lt : ltD (.int i) (.int j) = some (false, .bool (decide (i < j))) := by unfold ltD; rw [if_pos lt_int', PySem.W.dataLt_int]; rfl
theorem e_gt : gtD (.int i) (.int j) = some (false, .bool (decide (j < i))) := by unfold gtD; rw [if_pos lt_int', PySem.W.dataLt_int]; rfl
theorem e_le : leD (.int i) (.int j) = some (false, .bool (decide (i ≤ j))) := by
  unfold leD; rw [if_pos lt_int', PySem.W.dataLt_int]
  show some (false, PyData.bool (!decide (j < i))) = _
  congr 2; rw [PyData.bool.injEq, ← decide_not]; exact decide_eq_decide.mpr Int.not_lt
theorem e_ge : geD (.int i) (.int j) = some (false, .bool (decide (j ≤ i))) := by
  unfold geD; rw [if_pos lt_int', PySem.W.dataLt_int]
  show some (false, PyData.bool (!decide (i < j))) = _
  congr 2; rw [PyData.bool.injEq, ← decide_not]; exact decide_eq_decide.mpr Int.not_lt
theorem e_eq : eqD (.int i) (.int j) = some (false, .bool (decide (i = j))) := by
  unfold eqD; rw [smI, smI]
  show some (false, PyData.bool (PyData.eqv (.int i) (.int j))) = _
  rw [PyData.eqv]; congr 2
theorem e_ne : neD (.int i) (.int j) = some (false, .bool (!decide (i = j))) := by
  unfold neD; rw [smI, smI]
  show some (false, PyData.bool (!PyData.eqv (.int i) (.int j))) = _
  rw [PyData.eqv]; congr 2
theorem e_eqG (h : sm d = true) (h' : sm e = true) : eqD d e = some (false, .bool (PyData.eqv d e)) := by unfold eqD; rw [h, h']; rfl
theorem e_neG (h : sm d = true) (h' : sm e = true) : neD d e = some (false, .bool (!PyData.eqv d e)) := by unfold neD; rw [h, h']; rfl
theorem e_isN : isD d .none = some (false, .bool (!notNone d)) := rfl
theorem e_isnN : isNotD d .none = some (false, .bool (notNone d)) := rfl
theorem e_isB : isD (.bool b) (.bool c) = some (false, .bool (decide (b = c))) := rfl
theorem e_isnB : isNotD (.bool b) (.bool c) = some (false, .bool (!decide (b = c))) := rfl
/-! small data -/
theorem plainAll_of : ∀ {xs : List D}, (∀ d ∈ xs, d.plain = true) → PyData.plainAll xs = true
  | [], _ => by rw [PyData.plainAll]
  | x :: xs, h => by rw [PyData.plainAll, h x List.mem_cons_self, plainAll_of fun d hd => h d (List.mem_cons_of_mem _ hd)]; rfl
theorem depthAll_of {n : Nat} : ∀ {xs : List D}, (∀ d ∈ xs, d.depth ≤ n) → PyData.depthAll xs ≤ n
  | [], _ => by rw [PyData.depthAll]; omega
  | x :: xs, h => by
    rw [PyData.depthAll]
    have h1 := h x List.mem_cons_self
    have h2 := depthAll_of fun d hd => h d (List.mem_cons_of_mem _ hd)
    omega
/-- plain, so deep at the most -/
structure Pl (n : Nat) (d : D) : Prop where
  p : d.plain = true
  d : d.depth ≤ n
theorem Pl.sm {n : Nat} {d : D} (h : Pl n d) (l : n ≤ 30) : sm d = true := by
  unfold DL.sm; rw [h.p, decide_eq_true (Nat.le_trans h.d l)]; rfl
theorem Pl.mono {n m : Nat} {d : D} (h : Pl n d) (l : n ≤ m) : Pl m d := ⟨h.p, Nat.le_trans h.d l⟩
theorem pl_int (i : Int) : Pl 0 (.int i) := ⟨by rw [PyData.plain], by rw [PyData.depth]; omega⟩
theorem pl_bool (i : Bool) : Pl 0 (.bool i) := ⟨by rw [PyData.plain], by rw [PyData.depth]; omega⟩
theorem pl_none : Pl 0 .none := ⟨by rw [PyData.plain], by rw [PyData.depth]; omega⟩
theorem pl_str (i : Str) : Pl 0 (.str i) := ⟨by rw [PyData.plain], by rw [PyData.depth]; omega⟩
theorem pl_tup {n : Nat} {xs : List D} (h : ∀ d ∈ xs, Pl n d) : Pl (n + 1) (.tuple xs) :=
  ⟨by rw [PyData.plain]; exact plainAll_of fun d hd => (h d hd).p, by rw [PyData.depth]; have := depthAll_of fun d hd => (h d hd).d; omega⟩
theorem pl_lst {n : Nat} {xs : List D} (h : ∀ d ∈ xs, Pl n d) : Pl (n + 1) (.list xs) :=
  ⟨by rw [PyData.plain]; exact plainAll_of fun d hd => (h d hd).p, by rw [PyData.depth]; have := depthAll_of fun d hd => (h d hd).d; omega⟩
theorem pl_nil {n : Nat} : ∀ d ∈ ([] : List D), Pl n d := fun d h => by cases h
theorem pl_cons {n : Nat} {x : D} {xs : List D} (h : Pl n x) (t : ∀ d ∈ xs, Pl n d) : ∀ d ∈ x :: xs, Pl n d := fun d hd => by
  rcases List.mem_cons.mp hd with rfl | hd
  · exact h
  · exact t d hd
/-! subscripts -/
def pick (o : Option D) : Option (Bool × D) := o.map fun z => (false, z)
theorem pk_some : pick (some d) = some (false, d) := rfl
theorem e_ixL (h : 0 ≤ i) : ixD (.list xs) (.int i) = pick xs[i.toNat]? := by
  show (atI xs i).map _ = _
  unfold atI ixN pick
  rw [if_pos h]
  by_cases l : i < xs.length
  · rw [if_pos l]; rfl
  · rw [if_neg l, List.getElem?_eq_none (by omega)]; rfl
theorem e_ixT (h : 0 ≤ i) : ixD (.tuple xs) (.int i) = pick xs[i.toNat]? := by
  show (atI xs i).map _ = _
  unfold atI ixN pick
  rw [if_pos h]
  by_cases l : i < xs.length
  · rw [if_pos l]; rfl
  · rw [if_neg l, List.getElem?_eq_none (by omega)]; rfl
theorem ixN_last {n : Nat} (h : 0 < n) : ixN n (-1) = some (n - 1) := by
  unfold ixN
  rw [if_neg (by decide), if_pos (by omega)]
  congr 1; omega
theorem e_lastL : ixD (.list xs) (.int (-1)) = pick xs.getLast? := by
  show (atI xs (-1)).map _ = _
  unfold atI pick
  cases xs with
  | nil => rfl
  | cons x xs => rw [ixN_last (by rw [List.length_cons]; omega), List.getLast?_eq_getElem?]; rfl
theorem e_lastT : ixD (.tuple xs) (.int (-1)) = pick xs.getLast? := by
  show (atI xs (-1)).map _ = _
  unfold atI pick
  cases xs with
  | nil => rfl
  | cons x xs => rw [ixN_last (by rw [List.length_cons]; omega), List.getLast?_eq_getElem?]; rfl
/-! slices -/
theorem e_part {f : M R} {δ : DEnv} : part f δ = Res.bd (f δ) intR := q_bind
theorem e_intR {δ : DEnv} : intR (.val (.int i)) δ = .ok (some i) δ := rfl
theorem e_noPart {δ : DEnv} : noPart δ = .ok none δ := rfl
theorem e_slice {fa : M R} {fl fh : M (Option Int)} {δ : DEnv} : sliceM fa fl fh δ = Res.bd (fa δ) fun r δ => Res.bd (fl δ) fun l δ => Res.bd (fh δ) fun h δ => Res.bd (datM r δ) fun d δ => optR (sliceD d l h) δ := by
  unfold sliceM; simp only [q_bindF]
theorem e_slL {l h : Option Int} : sliceD (.list xs) l h = some (true, .list (cutD xs l h)) := rfl
theorem e_slT {l h : Option Int} : sliceD (.tuple xs) l h = some (false, .tuple (cutD xs l h)) := rfl
theorem cut_from {α : Type} {xs : List α} (h : 0 ≤ i) : cutD xs (some i) none = xs.drop i.toNat := by
  obtain ⟨k, rfl⟩ := Int.eq_ofNat_of_zero_le h
  unfold cutD
  rw [HT.sIx_nat, HT.sIx_none, Int.toNat_natCast]
  rcases Nat.le_total k xs.length with q | q
  · rw [Nat.min_eq_left q, List.take_of_length_le (by rw [List.length_drop]; exact Nat.le_refl _)]
  · rw [Nat.min_eq_right q, List.drop_eq_nil_of_le (Nat.le_refl _), List.drop_eq_nil_of_le q, List.take_nil]
theorem cut_to {α : Type} {xs : List α} (h : 0 ≤ i) : cutD xs none (some i) = xs.take i.toNat := by
  obtain ⟨k, rfl⟩ := Int.eq_ofNat_of_zero_le h
  unfold cutD
  rw [HT.sIx_nat, HT.sIx_none, Int.toNat_natCast, List.drop_zero, Nat.sub_zero]
  rcases Nat.le_total k xs.length with q | q
  · rw [Nat.min_eq_left q]
  · rw [Nat.min_eq_right q, List.take_of_length_le (Nat.le_refl _), List.take_of_length_le q]
/-! built-ins -/
theorem e_lenL : lenD [.list xs] = some (false, .int xs.length) := rfl
theorem e_lenT : lenD [.tuple xs] = some (false, .int xs.length) := rfl
theorem e_abs : absD [.int i] = some (false, .int (if i < 0 then -i else i)) := rfl
theorem e_min : min2D [.int i, .int j] = some (false, .int (if j < i then j else i)) := rfl
theorem e_max : max2D [.int i, .int j] = some (false, .int (if j > i then j else i)) := rfl
theorem e_int : intD [.int i] = some (false, .int i) := rfl
theorem e_intB : intD [.bool b] = some (false, .int (if b then 1 else 0)) := rfl
theorem e_tupL : tupleD [.list xs] = some (false, .tuple xs) := rfl
theorem e_tupT : tupleD [.tuple xs] = some (false, .tuple xs) := rfl
theorem e_lstL : listD [.list xs] = some (true, .list xs) := rfl
theorem e_lstT : listD [.tuple xs] = some (true, .list xs) := rfl
theorem e_all {bs : List Bool} : allD [.list (bs.map .bool)] = some (false, .bool (bs.all id)) := by unfold allD; dsimp only; rw [boolsO_map]; rfl
theorem e_any {bs : List Bool} : anyD [.list (bs.map .bool)] = some (false, .bool (bs.any id)) := by unfold anyD; dsimp only; rw [boolsO_map]; rfl
theorem e_sum {bs : List Int} : sumD [.list (bs.map .int)] = some (false, .int bs.sum) := by unfold sumD; dsimp only; rw [intsO_map]; rfl
theorem e_isa {Ts : List Ty} : isaD Ts d = some (false, .bool (Ts.any fun T => T.is d)) := rfl
theorem e_set (h : 0 ≤ i) (h' : i < xs.length) : setD (.list xs) (.int i) d = some (.list (xs.set i.toNat d)) := by
  show (ixN xs.length i).map _ = _
  unfold ixN; rw [if_pos h, if_pos h']; rfl
theorem e_set0 {x y z : D} : setD (.list [x, y, z]) (.int 0) d = some (.list [d, y, z]) := rfl
theorem e_set2 {x y z : D} : setD (.list [x, y, z]) (.int 2) d = some (.list [x, y, d]) := rfl
theorem e_range1 (h : small j = true) : range1O [.int j] = some (upTo 0 j.toNat) := if_pos h
theorem e_range2 (h : small i = true) (h' : small j = true) : range2O [.int i, .int j] = some (upTo i (j - i).toNat) := if_pos (by rw [h, h']; rfl)
theorem e_zip2 {a b : D} (h : seqO a = some xs) (h' : seqO b = some ys) : zip2O [a, b] = some (List.zipWith (fun x y => .tuple [x, y]) xs ys) := by unfold zip2O; dsimp only; rw [h, h']
end
/-! ### comprehensions that only read -/
/-- a turn -/
theorem q_lc {fi : M (List D)} {g : TgM} {t : M Bool} {e : M D} {vs : List Nat} {δ : DEnv} : lcM fi g t e vs δ = Res.bd (fi δ) fun ds δ => if (vs.all (blank δ) && decide (ds.length ≤ line)) = true then (match lcLoop g t e vs ds δ with
    | .ok ys δ' => .ok (.new (.list ys)) δ'
    | _ => .bad) else .bad := q_bind
/-- each item gives its own, nothing else is changed -/
theorem lc_map {g : TgM} {t : M Bool} {e : M D} {vs : List Nat} {δ : DEnv} (p : D → Bool) (h : D → D) : ∀ {ds : List D}, (∀ d ∈ ds, ∃ δ1 δ2, g d (hide vs δ) = some δ1 ∧ t δ1 = .ok (p d) δ2 ∧ (p d = false → unhide δ vs δ2 = δ) ∧ (p d = true → ∃ δ3, e δ2 = .ok (h d) δ3 ∧ unhide δ vs δ3 = δ)) →
    lcLoop g t e vs ds δ = .ok ((ds.filter p).map h) δ
  | [], _ => rfl
  | d :: ds, k => by
    obtain ⟨δ1, δ2, h1, h2, h3, h4⟩ := k d List.mem_cons_self
    have ih := lc_map p h (ds := ds) fun d hd => k d (List.mem_cons_of_mem _ hd)
    unfold lcLoop
    rw [h1]
    dsimp only
    rw [h2]
    dsimp only
    by_cases hp : p d = true
    · obtain ⟨δ3, h5, h6⟩ := h4 hp
      rw [if_pos hp, h5]
      dsimp only
      rw [h6, ih, List.filter_cons_of_pos hp, List.map_cons]
    · rw [if_neg hp, h3 (Bool.not_eq_true _ |>.mp hp), ih, List.filter_cons_of_neg hp]
/-- without a test -/
theorem lcm_map {fi : M (List D)} {g : TgM} {e : M D} {vs : List Nat} {δ0 δ : DEnv} {ds : List D} (h : D → D) (hf : fi δ0 = .ok ds δ) (hb : vs.all (blank δ) = true) (hl : ds.length ≤ line)
    (k : ∀ d ∈ ds, ∃ δ1 δ3, g d (hide vs δ) = some δ1 ∧ e δ1 = .ok (h d) δ3 ∧ unhide δ vs δ3 = δ) : lcM fi g yesM e vs δ0 = .ok (.new (.list (ds.map h))) δ := by
  rw [q_lc, hf]
  show (if (vs.all (blank δ) && decide (ds.length ≤ line)) = true then _ else _) = _
  rw [hb, decide_eq_true hl, if_pos (show (true && true) = true from rfl)]
  have q := lc_map (t := yesM) (fun _ => true) h (g := g) (e := e) (vs := vs) (δ := δ) (ds := ds) fun d hd => by
    obtain ⟨δ1, δ3, h1, h2, h3⟩ := k d hd
    exact ⟨δ1, δ1, h1, rfl, (fun z => nomatch z), fun _ => ⟨δ3, h2, h3⟩⟩
  rw [q, List.filter_eq_self.mpr (fun _ _ => rfl)]
/-- with a test -/
theorem lcm_filter {fi : M (List D)} {g : TgM} {t : M Bool} {e : M D} {vs : List Nat} {δ0 δ : DEnv} {ds : List D} (p : D → Bool) (h : D → D) (hf : fi δ0 = .ok ds δ) (hb : vs.all (blank δ) = true) (hl : ds.length ≤ line)
    (k : ∀ d ∈ ds, ∃ δ1 δ2, g d (hide vs δ) = some δ1 ∧ t δ1 = .ok (p d) δ2 ∧ (p d = false → unhide δ vs δ2 = δ) ∧ (p d = true → ∃ δ3, e δ2 = .ok (h d) δ3 ∧ unhide δ vs δ3 = δ)) : lcM fi g t e vs δ0 = .ok (.new (.list ((ds.filter p).map h))) δ := by
  rw [q_lc, hf]
  show (if (vs.all (blank δ) && decide (ds.length ≤ line)) = true then _ else _) = _
  rw [hb, decide_eq_true hl, if_pos (show (true && true) = true from rfl), lc_map p h k]
theorem lcLoop_enc {α : Type} (enc : α → D) {g : TgM} {t : M Bool} {e : M D} {vs : List Nat} {δ : DEnv} (p : α → Bool) (h : α → D) : ∀ {xs : List α}, (∀ x ∈ xs, ∃ δ1 δ2, g (enc x) (hide vs δ) = some δ1 ∧ t δ1 = .ok (p x) δ2 ∧ (p x = false → unhide δ vs δ2 = δ) ∧ (p x = true → ∃ δ3, e δ2 = .ok (h x) δ3 ∧ unhide δ vs δ3 = δ)) →
    lcLoop g t e vs (xs.map enc) δ = .ok ((xs.filter p).map h) δ
  | [], _ => rfl
  | d :: ds, k => by
    obtain ⟨δ1, δ2, h1, h2, h3, h4⟩ := k d List.mem_cons_self
    have ih := lcLoop_enc enc p h (xs := ds) fun d hd => k d (List.mem_cons_of_mem _ hd)
    rw [List.map_cons]
    unfold lcLoop
    rw [h1]
    dsimp only
    rw [h2]
    dsimp only
    by_cases hp : p d = true
    · obtain ⟨δ3, h5, h6⟩ := h4 hp
      rw [if_pos hp, h5]
      dsimp only
      rw [h6, ih, List.filter_cons_of_pos hp, List.map_cons]
    · rw [if_neg hp, h3 (Bool.not_eq_true _ |>.mp hp), ih, List.filter_cons_of_neg hp]
/-- items told by what they stand for -/
theorem lcm_enc {α : Type} (enc : α → D) (xs : List α) {fi : M (List D)} {g : TgM} {e : M D} {vs : List Nat} {δ0 δ : DEnv} (h : α → D) (hf : fi δ0 = .ok (xs.map enc) δ) (hb : vs.all (blank δ) = true) (hl : xs.length ≤ line)
    (k : ∀ x ∈ xs, ∃ δ1 δ3, g (enc x) (hide vs δ) = some δ1 ∧ e δ1 = .ok (h x) δ3 ∧ unhide δ vs δ3 = δ) : lcM fi g yesM e vs δ0 = .ok (.new (.list (xs.map h))) δ := by
  rw [q_lc, hf]
  show (if (vs.all (blank δ) && decide ((xs.map enc).length ≤ line)) = true then _ else _) = _
  rw [hb, List.length_map, decide_eq_true hl, if_pos (show (true && true) = true from rfl)]
  have q := lcLoop_enc enc (t := yesM) (fun _ => true) h (g := g) (e := e) (vs := vs) (δ := δ) (xs := xs) fun d hd => by
    obtain ⟨δ1, δ3, h1, h2, h3⟩ := k d hd
    exact ⟨δ1, δ1, h1, rfl, (fun z => nomatch z), fun _ => ⟨δ3, h2, h3⟩⟩
  rw [q, List.filter_eq_self.mpr (fun _ _ => rfl)]
theorem lcm_encF {α : Type} (enc : α → D) (xs : List α) {fi : M (List D)} {g : TgM} {t : M Bool} {e : M D} {vs : List Nat} {δ0 δ : DEnv} (p : α → Bool) (h : α → D) (hf : fi δ0 = .ok (xs.map enc) δ) (hb : vs.all (blank δ) = true) (hl : xs.length ≤ line)
    (k : ∀ x ∈ xs, ∃ δ1 δ2, g (enc x) (hide vs δ) = some δ1 ∧ t δ1 = .ok (p x) δ2 ∧ (p x = false → unhide δ vs δ2 = δ) ∧ (p x = true → ∃ δ3, e δ2 = .ok (h x) δ3 ∧ unhide δ vs δ3 = δ)) : lcM fi g t e vs δ0 = .ok (.new (.list ((xs.filter p).map h))) δ := by
  rw [q_lc, hf]
  show (if (vs.all (blank δ) && decide ((xs.map enc).length ≤ line)) = true then _ else _) = _
  rw [hb, List.length_map, decide_eq_true hl, if_pos (show (true && true) = true from rfl), lcLoop_enc enc p h k]
/-! ### defs -/
def finF (bor : Bool) (r : SRes) : FRes := match r with
  | .nx δ => .ok false .none (borC bor δ)
  | .rt fr d δ => .ok fr d (borC bor δ)
  | .ex x δ => .ex x (borC bor δ)
  | _ => .bad
theorem run_eq {n np : Nat} {bor : Bool} {t : SM} {ds : List D} (h : ds.length = np) : runF n np bor t ds = finF bor (t (env0 n bor ds)) := by
  unfold runF; rw [if_pos h]; rfl
theorem fin_nx {bor : Bool} {δ : DEnv} : finF bor (.nx δ) = .ok false .none (borC bor δ) := rfl
theorem fin_rt {bor fr : Bool} {d : D} {δ : DEnv} : finF bor (.rt fr d δ) = .ok fr d (borC bor δ) := rfl
theorem fin_ex {bor : Bool} {x : Exc} {δ : DEnv} : finF bor (.ex x δ) = .ex x (borC bor δ) := rfl
theorem bor_t {c : D} {δ : DEnv} : borC true (some (.bor, c) :: δ) = c := rfl
theorem bor_f {δ : DEnv} : borC false δ = .none := rfl
/-- a sequence of statements, one ahead -/
theorem seq_ex {t u : SM} {δ δ1 : DEnv} (h : t δ = .nx δ1) (k : ∃ δ', u δ1 = .nx δ') : ∃ δ', seqS t u δ = .nx δ' := by
  rw [q_seq, h]; exact k
end DL

/-! # DL, part 24: more equations. -/
namespace DL
open PySem PySem.Spec PyProof.Rows L2
variable {δ : DEnv} {i j : Nat} {d : D}
def parR2 (i j : Nat) (r q : R) (δ : DEnv) : SRes := nxO ((putO i r δ).bind (putO j q))
def parR1 (i j : Nat) (g : M R) (r : R) (δ : DEnv) : SRes := ofRes (mvM g δ) (parR2 i j r)
theorem q_par {f g : M R} : parS i j f g δ = ofRes (mvM f δ) (parR1 i j g) := rfl
theorem q_par1 {g : M R} {r : R} : parR1 i j g r δ = ofRes (mvM g δ) (parR2 i j r) := rfl
theorem q_par2 {r q : R} : parR2 i j r q δ = nxO ((putO i r δ).bind (putO j q)) := rfl
theorem po_val : putO i (.val d) δ = if free δ i = true then some (δ.set i (some (.pers, d))) else none := rfl
theorem po_new : putO i (.new d) δ = if free δ i = true then some (δ.set i (some (.own, d))) else none := rfl
theorem nx_some : nxO (some δ) = .nx δ := rfl
theorem q_dct0 : dct0 δ = .ok (.new (.dict [])) δ := rfl
def dkO (o : Option (Option (Kd × D))) : Option (List (D × D)) := match o with
  | some (some (_, .dict m)) => if keyFor m (.int 0) = true then some m else none
  | _ => none
def gate {α : Type} (o : Option (List (D × D))) (r : Res α) : Res α := match o with
  | some _ => r
  | none => .bad
theorem gate_some {α : Type} {m : List (D × D)} {r : Res α} : gate (some m) r = r := rfl
theorem dk_dict {k : Kd} {m : List (D × D)} (h : keyFor m (.int 0) = true) : dkO (some (some (k, .dict m))) = some m := if_pos h
def getO (o : Option (List (D × D))) (k : Option D) (x : D) (δ : DEnv) : Res R := match o, k with
  | some m, some k => match atomKey k with
    | some _ => .ok (.val ((dfind m k).getD x)) δ
    | none => .bad
  | _, _ => .bad
theorem q_getE {r : R} {x : D} : getE i r x δ = getO (dkO δ[i]?) (dat δ r) x δ := rfl
theorem q_getM {fk fd : M R} : getM i fk fd δ = gate (dkO δ[i]?) (Res.bd (fk δ) fun r δ => Res.bd (persM fd δ) fun x δ => getE i r x δ) := by
  unfold getM gate
  show (match dkO δ[i]? with | some _ => _ | none => _) = _
  cases dkO δ[i]? with
  | none => rfl
  | some m => dsimp only; simp only [q_bindF]
theorem q_pop2 {f : M R} : pop2M i f δ = gate (dkO δ[i]?) (m1M "dict" i popnD f δ) := rfl
theorem dat_val {d : D} : dat δ (.val d) = some d := rfl
theorem go_int {m : List (D × D)} {j : Int} {x : D} : getO (some m) (some (.int j)) x δ = .ok (.val ((dfind m (.int j)).getD x)) δ := rfl
theorem ow_dict {m : List (D × D)} : ownO "dict" (some (some (.own, .dict m))) = true := rfl
end DL

/-! # DL, part 25: keys and rows of whole numbers, told by what they stand for: dicts, sorted. -/
namespace DL
open PySem PySem.Spec PyProof.Rows L2

/-- things written as whole numbers or tuples of them, in Python's order -/
class Pln (α : Type) where
  e : α → D
  lt : α → α → Prop
  dlt : ∀ a b, Decidable (lt a b)
  ltD : ∀ a b, PySem.W.dataLt (e a) (e b) = decide (lt a b)
  tr : ∀ a b c, lt a b → lt b c → lt a c
  tri : ∀ a b, lt a b ∨ a = b ∨ lt b a
  irr : ∀ a, ¬ lt a a
  al : ∀ a b, PySem.W.alike (e a) (e b) = true
  so : ∀ as : List α, sortableB (as.map e) = true
  pl : ∀ a, Pl 1 (e a)
  eqv : ∀ a b, PyData.eqv (e a) (e b) = true ↔ a = b
  nn : ∀ a, notNone (e a) = true
/-- .. that may be keys -/
class PlnK (α : Type) extends Pln α where
  tup : Bool
  key : α → Key ⊕ List Key
  kok : ∀ a, keyOf (e a) = some (key a)
  kt : ∀ a, (match key a with | .inl _ => false | .inr _ => true) = tup
  inj : ∀ a b, key a = key b → a = b
instance {α : Type} [Pln α] (a b : α) : Decidable (Pln.lt a b) := Pln.dlt a b
theorem dataLt_iii (x y z x' y' z' : Int) : PySem.W.dataLt (.tuple [.int x, .int y, .int z]) (.tuple [.int x', .int y', .int z']) = decide (x < x' ∨ (x = x' ∧ (y < y' ∨ (y = y' ∧ z < z')))) := by
  rw [PySem.W.dataLt_tuple, PySem.W.dataLt_cons (by simp [PySem.W.alike]), ← PySem.W.dataLt_tuple, PySem.W.dataLt_ii, PySem.W.dataLt_int]
  by_cases h : x = x'
  · subst h
    rw [if_pos (by rw [PyData.eqv]; exact decide_eq_true rfl)]
    simp
  · rw [if_neg (by rw [PyData.eqv]; simpa using h)]
    simp [h]
instance : PlnK Int where
  nn _ := rfl
  e i := .int i
  tup := false
  key i := .inl (.inl i)
  kok _ := rfl
  kt _ := rfl
  inj a b h := by cases h; rfl
  lt a b := a < b
  dlt _ _ := inferInstance
  ltD a b := PySem.W.dataLt_int a b
  tr a b c := by omega
  tri a b := by omega
  irr a := by omega
  al a b := by simp [PySem.W.alike]
  so as := by
    unfold sortableB
    rw [Bool.or_eq_true]
    refine .inr (List.all_eq_true.mpr fun d hd => ?_)
    obtain ⟨n, _, rfl⟩ := List.mem_map.mp hd
    rfl
  pl a := (pl_int a).mono (by decide)
  eqv a b := by rw [PyData.eqv]; exact decide_eq_true_iff
instance : PlnK (Int × Int) where
  nn _ := rfl
  e p := .tuple [.int p.1, .int p.2]
  tup := true
  key p := .inr [.inl p.1, .inl p.2]
  kok _ := rfl
  kt _ := rfl
  inj a b h := by cases a; cases b; simp at h; rw [h.1, h.2]
  lt a b := a.1 < b.1 ∨ (a.1 = b.1 ∧ a.2 < b.2)
  dlt _ _ := inferInstance
  ltD a b := PySem.W.dataLt_ii _ _ _ _
  tr a b c := by omega
  tri a b := by
    have : a = b ↔ a.1 = b.1 ∧ a.2 = b.2 := Prod.ext_iff
    rw [this]; omega
  irr a := by omega
  al a b := by simp [PySem.W.alike, PySem.W.alikeAll]
  so as := by
    unfold sortableB
    rw [Bool.or_eq_true]
    refine .inl (List.all_eq_true.mpr fun d hd => ?_)
    obtain ⟨n, _, rfl⟩ := List.mem_map.mp hd
    rfl
  pl a := pl_tup (pl_cons (pl_int _) (pl_cons (pl_int _) pl_nil))
  eqv a b := by
    have : a = b ↔ a.1 = b.1 ∧ a.2 = b.2 := Prod.ext_iff
    rw [this]; simp [PyData.eqv, PyData.eqvAll]
instance : PlnK (Int × Int × Int) where
  nn _ := rfl
  e p := .tuple [.int p.1, .int p.2.1, .int p.2.2]
  tup := true
  key p := .inr [.inl p.1, .inl p.2.1, .inl p.2.2]
  kok _ := rfl
  kt _ := rfl
  inj a b h := by obtain ⟨a1, a2, a3⟩ := a; obtain ⟨b1, b2, b3⟩ := b; simp at h; rw [h.1, h.2.1, h.2.2]
  lt a b := a.1 < b.1 ∨ (a.1 = b.1 ∧ (a.2.1 < b.2.1 ∨ (a.2.1 = b.2.1 ∧ a.2.2 < b.2.2)))
  dlt _ _ := inferInstance
  ltD a b := dataLt_iii _ _ _ _ _ _
  tr a b c := by omega
  tri a b := by
    have : a = b ↔ a.1 = b.1 ∧ a.2.1 = b.2.1 ∧ a.2.2 = b.2.2 := by rw [Prod.ext_iff, Prod.ext_iff]
    rw [this]; omega
  irr a := by omega
  al a b := by simp [PySem.W.alike, PySem.W.alikeAll]
  so as := by
    unfold sortableB
    rw [Bool.or_eq_true]
    refine .inl (List.all_eq_true.mpr fun d hd => ?_)
    obtain ⟨n, _, rfl⟩ := List.mem_map.mp hd
    rfl
  pl a := pl_tup (pl_cons (pl_int _) (pl_cons (pl_int _) (pl_cons (pl_int _) pl_nil)))
  eqv a b := by
    have : a = b ↔ a.1 = b.1 ∧ a.2.1 = b.2.1 ∧ a.2.2 = b.2.2 := by rw [Prod.ext_iff, Prod.ext_iff]
    rw [this]; simp [PyData.eqv, PyData.eqvAll]
def b01 (b : Bool) : Int := if b = true then 1 else 0
theorem b01_inj {a b : Bool} : b01 a = b01 b ↔ a = b := by cases a <;> cases b <;> decide
theorem dataLt_ib (x : Int) (y : Bool) (x' : Int) (y' : Bool) : PySem.W.dataLt (.tuple [.int x, .bool y]) (.tuple [.int x', .bool y']) = decide (x < x' ∨ (x = x' ∧ b01 y < b01 y')) := by
  rw [PySem.W.dataLt_pair (by simp [PySem.W.alike]) (by simp [PySem.W.alike]), PySem.W.dataLt_int, PySem.W.dataLt_bool]
  have e1 : PyData.eqv (.int x) (.int x') = decide (x = x') := by rw [PyData.eqv]; rfl
  have e2 : PyData.eqv (.bool y) (.bool y') = decide (y = y') := by cases y <;> cases y' <;> simp [PyData.eqv]
  rw [e1, e2]
  by_cases h : x = x'
  · subst h
    rw [if_pos (decide_eq_true rfl)]
    cases y <;> cases y' <;> simp [b01] <;> decide
  · rw [if_neg (by simpa using h)]; simp [h]
theorem dataLt_iiib (x y z : Int) (u : Bool) (x' y' z' : Int) (u' : Bool) : PySem.W.dataLt (.tuple [.int x, .int y, .int z, .bool u]) (.tuple [.int x', .int y', .int z', .bool u']) = decide (x < x' ∨ (x = x' ∧ (y < y' ∨ (y = y' ∧ (z < z' ∨ (z = z' ∧ b01 u < b01 u')))))) := by
  rw [PySem.W.dataLt_tuple, PySem.W.dataLt_cons (by simp [PySem.W.alike]), PySem.W.dataLt_cons (by simp [PySem.W.alike]), ← PySem.W.dataLt_tuple, dataLt_ib, PySem.W.dataLt_int, PySem.W.dataLt_int]
  have e : ∀ a b : Int, PyData.eqv (.int a) (.int b) = decide (a = b) := fun a b => by rw [PyData.eqv]; rfl
  rw [e, e]
  by_cases h : x = x'
  · subst h
    by_cases h2 : y = y'
    · subst h2; simp
    · simp [h2]
  · simp [h]
instance : Pln (Int × Int × Int × Bool) where
  nn _ := rfl
  e p := .tuple [.int p.1, .int p.2.1, .int p.2.2.1, .bool p.2.2.2]
  lt a b := a.1 < b.1 ∨ (a.1 = b.1 ∧ (a.2.1 < b.2.1 ∨ (a.2.1 = b.2.1 ∧ (a.2.2.1 < b.2.2.1 ∨ (a.2.2.1 = b.2.2.1 ∧ b01 a.2.2.2 < b01 b.2.2.2)))))
  dlt _ _ := inferInstance
  ltD a b := dataLt_iiib _ _ _ _ _ _ _ _
  tr a b c := by omega
  tri a b := by
    have : a = b ↔ a.1 = b.1 ∧ a.2.1 = b.2.1 ∧ a.2.2.1 = b.2.2.1 ∧ b01 a.2.2.2 = b01 b.2.2.2 := by rw [Prod.ext_iff, Prod.ext_iff, Prod.ext_iff, b01_inj]
    rw [this]; omega
  irr a := by omega
  al a b := by simp [PySem.W.alike, PySem.W.alikeAll]
  so as := by
    unfold sortableB
    rw [Bool.or_eq_true]
    refine .inl (List.all_eq_true.mpr fun d hd => ?_)
    obtain ⟨n, _, rfl⟩ := List.mem_map.mp hd
    rfl
  pl a := pl_tup (pl_cons (pl_int _) (pl_cons (pl_int _) (pl_cons (pl_int _) (pl_cons (pl_bool _) pl_nil))))
  eqv a b := by
    have : a = b ↔ a.1 = b.1 ∧ a.2.1 = b.2.1 ∧ a.2.2.1 = b.2.2.1 ∧ a.2.2.2 = b.2.2.2 := by rw [Prod.ext_iff, Prod.ext_iff, Prod.ext_iff]
    rw [this]
    obtain ⟨a1, a2, a3, a4⟩ := a
    obtain ⟨b1, b2, b3, b4⟩ := b
    cases a4 <;> cases b4 <;> simp [PyData.eqv, PyData.eqvAll]
section
variable {α : Type} [PlnK α] [DecidableEq α]
theorem PlnK.iff (a b : α) : keyOf (Pln.e a) = keyOf (Pln.e b) ↔ a = b := by
  rw [PlnK.kok, PlnK.kok]
  exact ⟨fun h => PlnK.inj _ _ (Option.some.inj h), fun h => by rw [h]⟩
def asD (m : List (α × D)) : List (D × D) := m.map fun p => (Pln.e p.1, p.2)
def pput {β : Type} (m : List (α × β)) (a : α) (v : β) : List (α × β) := if a ∈ m.map (·.1) then m.map (fun p => if p.1 = a then (p.1, v) else p) else m ++ [(a, v)]
def pget {β : Type} (m : List (α × β)) (a : α) : Option β := (m.find? fun p => decide (p.1 = a)).map (·.2)
def pdrop {β : Type} (m : List (α × β)) (a : α) : List (α × β) := m.filter fun p => decide (p.1 ≠ a)
theorem asD_keys (m : List (α × D)) : (asD m).map (·.1) = (m.map (·.1)).map Pln.e := by unfold asD; rw [List.map_map, List.map_map]; rfl
theorem asD_len (m : List (α × D)) : (asD m).length = m.length := List.length_map _
theorem asD_any (m : List (α × D)) (a : α) : ((asD m).any fun p => decide (keyOf p.1 = keyOf (Pln.e a))) = decide (a ∈ m.map (·.1)) := by
  unfold asD
  rw [List.any_map, Bool.eq_iff_iff, List.any_eq_true, decide_eq_true_iff, List.mem_map]
  exact ⟨fun ⟨p, h1, h2⟩ => ⟨p, h1, (PlnK.iff _ _).mp (of_decide_eq_true h2)⟩, fun ⟨p, h1, h2⟩ => ⟨p, h1, decide_eq_true ((PlnK.iff _ _).mpr h2)⟩⟩
theorem dput_as (m : List (α × D)) (a : α) (v : D) : dput (asD m) (Pln.e a) v = asD (pput m a v) := by
  unfold dput pput
  rw [asD_any]
  by_cases c : a ∈ m.map (·.1)
  · rw [if_pos (decide_eq_true c), if_pos c]
    unfold asD
    rw [List.map_map, List.map_map]
    refine List.map_congr_left fun p _ => ?_
    show (if keyOf (Pln.e p.1) = keyOf (Pln.e a) then (Pln.e p.1, v) else (Pln.e p.1, p.2)) = _
    by_cases z : p.1 = a
    · rw [if_pos ((PlnK.iff _ _).mpr z)]; simp [z]
    · rw [if_neg fun q => z ((PlnK.iff _ _).mp q)]; simp [z]
  · rw [if_neg (fun q => c (of_decide_eq_true q)), if_neg c]
    unfold asD
    rw [List.map_append]; rfl
theorem dfind_as (m : List (α × D)) (a : α) : dfind (asD m) (Pln.e a) = pget m a := by
  unfold dfind pget asD
  rw [List.find?_map, Option.map_map]
  have e : ((fun p : D × D => decide (keyOf p.1 = keyOf (Pln.e a))) ∘ fun p : α × D => (Pln.e p.1, p.2)) = fun p => decide (p.1 = a) := by
    funext p
    show decide (keyOf (Pln.e p.1) = keyOf (Pln.e a)) = _
    rw [decide_eq_decide]
    exact PlnK.iff _ _
  rw [e]; rfl
theorem ddrop_as (m : List (α × D)) (a : α) : ddrop (asD m) (Pln.e a) = asD (pdrop m a) := by
  unfold ddrop pdrop asD
  rw [List.filter_map]
  congr 1
  refine List.filter_congr fun p _ => ?_
  show decide (keyOf (Pln.e p.1) ≠ keyOf (Pln.e a)) = _
  rw [decide_eq_decide]
  exact not_congr (PlnK.iff _ _)
theorem keyFor_as (m : List (α × D)) (a : α) (h : m ≠ [] ∨ PlnK.tup α = false) : keyFor (asD m) (Pln.e a) = true := by
  unfold keyFor
  rw [PlnK.kok]
  have ka := PlnK.kt a
  cases k : PlnK.key a with
  | inl z =>
    rw [k] at ka
    cases m with
    | nil => rfl
    | cons p m =>
      show (match atomKey (Pln.e p.1) with | some _ => true | none => false) = true
      have kp := PlnK.kt p.1
      have ko := PlnK.kok p.1
      rw [← ka] at kp
      cases kk : PlnK.key p.1 with
      | inr y => rw [kk] at kp; cases kp
      | inl y =>
        rw [kk] at ko
        rcases of_keyOf ko with ⟨q, e1, e2⟩ | ⟨q, e1, e2⟩
        · rw [e2, atomKey_keyD]
        · cases e1
  | inr z =>
    rw [k] at ka
    cases m with
    | nil => rcases h with h | h; exact absurd rfl h; rw [h] at ka; cases ka
    | cons p m =>
      show (match atomKey (Pln.e p.1) with | some _ => false | none => true) = true
      have kp := PlnK.kt p.1
      have ko := PlnK.kok p.1
      rw [← ka] at kp
      cases kk : PlnK.key p.1 with
      | inl y => rw [kk] at kp; cases kp
      | inr y =>
        rw [kk] at ko
        rcases of_keyOf ko with ⟨q, e1, e2⟩ | ⟨q, e1, e2⟩
        · cases e1
        · rw [e2]; rfl
theorem keyPut_as (m : List (α × D)) (a : α) : keyPut (asD m) (Pln.e a) = true := by
  unfold keyPut
  by_cases h : m ≠ [] ∨ PlnK.tup α = false
  · rw [keyFor_as m a h]; rfl
  · have h1 : m = [] := Decidable.byContradiction fun z => h (.inl z)
    have h2 : PlnK.tup α = true := by cases e : PlnK.tup α with | true => rfl | false => exact absurd (.inr e) h
    subst h1
    rw [PlnK.kok]
    have ka := PlnK.kt a
    rw [h2] at ka
    cases k : PlnK.key a with
    | inl z => rw [k] at ka; cases ka
    | inr z => simp [asD]
theorem set_as (m : List (α × D)) (a : α) (v : D) (h : m.length < line) : setD (.dict (asD m)) (Pln.e a) v = some (.dict (asD (pput m a v))) := by
  show (if keyPut (asD m) (Pln.e a) = true ∧ (asD m).length < line then some (PyData.dict (dput (asD m) (Pln.e a) v)) else none) = _
  rw [if_pos ⟨keyPut_as m a, by rw [asD_len]; exact h⟩, dput_as]
theorem find_as {β : Type} (m : List (α × β)) (a : α) : (pget m a).isSome = decide (a ∈ m.map (·.1)) := by
  unfold pget
  rw [Option.isSome_map, Bool.eq_iff_iff, List.find?_isSome, decide_eq_true_iff, List.mem_map]
  exact ⟨fun ⟨p, h1, h2⟩ => ⟨p, h1, of_decide_eq_true h2⟩, fun ⟨p, h1, h2⟩ => ⟨p, h1, decide_eq_true h2⟩⟩
theorem in_as (m : List (α × D)) (a : α) (h : m ≠ [] ∨ PlnK.tup α = false) : inD (Pln.e a) (.dict (asD m)) = some (false, .bool (decide (a ∈ m.map (·.1)))) := by
  show (if keyFor (asD m) (Pln.e a) = true then bl (false ^^ (dfind (asD m) (Pln.e a)).isSome) else none) = _
  rw [if_pos (keyFor_as m a h), dfind_as, find_as, Bool.false_xor]; rfl
theorem notin_as (m : List (α × D)) (a : α) (h : m ≠ [] ∨ PlnK.tup α = false) : notInD (Pln.e a) (.dict (asD m)) = some (false, .bool (!decide (a ∈ m.map (·.1)))) := by
  show (if keyFor (asD m) (Pln.e a) = true then bl (true ^^ (dfind (asD m) (Pln.e a)).isSome) else none) = _
  rw [if_pos (keyFor_as m a h), dfind_as, find_as, Bool.true_xor]; rfl
theorem ix_as (m : List (α × D)) (a : α) (h : m ≠ [] ∨ PlnK.tup α = false) : ixD (.dict (asD m)) (Pln.e a) = pick (pget m a) := by
  show (if keyFor (asD m) (Pln.e a) = true then (dfind (asD m) (Pln.e a)).map fun z => (false, z) else none) = _
  rw [if_pos (keyFor_as m a h), dfind_as]; rfl
theorem pput_keys {β : Type} (m : List (α × β)) (a : α) (v : β) : (pput m a v).map (·.1) = if a ∈ m.map (·.1) then m.map (·.1) else m.map (·.1) ++ [a] := by
  unfold pput
  by_cases c : a ∈ m.map (·.1)
  · rw [if_pos c, if_pos c, List.map_map]
    refine List.map_congr_left fun p _ => ?_
    show (if p.1 = a then (p.1, v) else p).1 = p.1
    split <;> rfl
  · rw [if_neg c, if_neg c, List.map_append]; rfl
theorem pput_len {β : Type} (m : List (α × β)) (a : α) (v : β) : (pput m a v).length ≤ m.length + 1 := by
  unfold pput; split
  · rw [List.length_map]; omega
  · rw [List.length_append]; exact Nat.le_refl _
theorem pput_mem {β : Type} {m : List (α × β)} {a : α} {v : β} {b : α} : b ∈ (pput m a v).map (·.1) ↔ b ∈ m.map (·.1) ∨ b = a := by
  rw [pput_keys]
  by_cases c : a ∈ m.map (·.1)
  · rw [if_pos c]
    exact ⟨.inl, fun h => h.elim id fun e => e ▸ c⟩
  · rw [if_neg c, List.mem_append, List.mem_singleton]
theorem pput_nodup {β : Type} {m : List (α × β)} {a : α} {v : β} (h : (m.map (·.1)).Nodup) : ((pput m a v).map (·.1)).Nodup := by
  rw [pput_keys]
  by_cases c : a ∈ m.map (·.1)
  · rw [if_pos c]; exact h
  · rw [if_neg c]
    refine List.nodup_append.mpr ⟨h, by simp, fun x hx y hy => ?_⟩
    rw [List.mem_singleton.mp hy]
    exact fun z => c (z ▸ hx)
theorem pget_put {β : Type} (m : List (α × β)) (a b : α) (v : β) : pget (pput m a v) b = if b = a then some v else pget m b := by
  unfold pput
  by_cases c : a ∈ m.map (·.1)
  · rw [if_pos c]
    unfold pget
    rw [List.find?_map, Option.map_map]
    have e : ((fun p : α × β => decide (p.1 = b)) ∘ fun p : α × β => if p.1 = a then (p.1, v) else p) = fun p => decide (p.1 = b) := by
      funext p; show decide ((if p.1 = a then (p.1, v) else p).1 = b) = _
      split <;> rfl
    rw [e]
    by_cases z : b = a
    · subst z
      rw [if_pos rfl]
      have := find_as m b
      rw [decide_eq_true c] at this
      unfold pget at this
      rw [Option.isSome_map] at this
      obtain ⟨p, hp⟩ := Option.isSome_iff_exists.mp this
      rw [hp]
      have := List.find?_some hp
      show some ((if p.1 = b then (p.1, v) else p).2) = _
      rw [if_pos (of_decide_eq_true this)]
    · rw [if_neg z]
      cases hp : m.find? fun p => decide (p.1 = b) with
      | none => rfl
      | some p =>
        have h0 := List.find?_some hp
        have := of_decide_eq_true h0
        show some ((if p.1 = a then (p.1, v) else p).2) = _
        rw [if_neg (by rw [this]; exact z)]; rfl
  · rw [if_neg c]
    unfold pget
    rw [List.find?_append]
    by_cases z : b = a
    · subst z
      have : (m.find? fun p => decide (p.1 = b)) = none := List.find?_eq_none.mpr fun p hp q => c (List.mem_map.mpr ⟨p, hp, of_decide_eq_true q⟩)
      rw [this, if_pos rfl]; simp
    · rw [if_neg z]
      have : ([(a, v)].find? fun p => decide (p.1 = b)) = none := by simp; exact fun q => z q.symm
      rw [this, Option.or_none]
def mapv {β γ : Type} (f : β → γ) (m : List (α × β)) : List (α × γ) := m.map fun p => (p.1, f p.2)
theorem mapv_keys {β γ : Type} (f : β → γ) (m : List (α × β)) : (mapv f m).map (·.1) = m.map (·.1) := by unfold mapv; rw [List.map_map]; rfl
theorem mapv_put {β γ : Type} (f : β → γ) (m : List (α × β)) (a : α) (b : β) : mapv f (pput m a b) = pput (mapv f m) a (f b) := by
  unfold pput
  rw [mapv_keys]
  by_cases c : a ∈ m.map (·.1)
  · rw [if_pos c, if_pos c]
    unfold mapv
    rw [List.map_map, List.map_map]
    refine List.map_congr_left fun p _ => ?_
    show ((if p.1 = a then (p.1, b) else p).1, f (if p.1 = a then (p.1, b) else p).2) = if p.1 = a then (p.1, f b) else (p.1, f p.2)
    split <;> rfl
  · rw [if_neg c, if_neg c]
    unfold mapv
    rw [List.map_append]; rfl
theorem mapv_get {β γ : Type} (f : β → γ) (m : List (α × β)) (a : α) : pget (mapv f m) a = (pget m a).map f := by
  unfold pget mapv
  rw [List.find?_map, Option.map_map, Option.map_map]; rfl
theorem pget_mem {β : Type} {m : List (α × β)} {a : α} {b : β} (h : pget m a = some b) : (a, b) ∈ m := by
  unfold pget at h
  obtain ⟨p, h1, h2⟩ := Option.map_eq_some_iff.mp h
  have h3 := List.find?_some h1
  have h4 := List.mem_of_find?_eq_some h1
  rw [← h2, ← of_decide_eq_true h3]
  exact h4
theorem pget_of {β : Type} : ∀ {m : List (α × β)} {a : α} {b : β}, (m.map (·.1)).Nodup → (a, b) ∈ m → pget m a = some b
  | [], _, _, _, h => by cases h
  | p :: m, a, b, nd, h => by
    obtain ⟨n1, n2⟩ := List.nodup_cons.mp (show (p.1 :: m.map (·.1)).Nodup from nd)
    unfold pget
    rcases List.mem_cons.mp h with rfl | h
    · rw [List.find?_cons_of_pos (by simp)]; rfl
    · have : p.1 ≠ a := fun z => n1 (z ▸ List.mem_map.mpr ⟨_, h, rfl⟩)
      rw [List.find?_cons_of_neg (by simpa using this)]
      exact pget_of n2 h
theorem pget_none {β : Type} {m : List (α × β)} {a : α} : pget m a = none ↔ a ∉ m.map (·.1) := by
  rw [← Option.not_isSome_iff_eq_none, find_as, decide_eq_true_iff]
end
section
variable {α : Type} [Pln α] [DecidableEq α]
/-! ### in order -/
def srt (as : List α) : List α := as.mergeSort fun a b => !decide (Pln.lt b a)
theorem srt_perm (as : List α) : (srt as).Perm as := List.mergeSort_perm _ _
theorem srt_len (as : List α) : (srt as).length = as.length := (srt_perm as).length_eq
theorem srt_mem {as : List α} {a : α} : a ∈ srt as ↔ a ∈ as := (srt_perm as).mem_iff
theorem srt_le (as : List α) : (srt as).Pairwise fun a b => ¬ Pln.lt b a := by
  refine (List.pairwise_mergeSort (fun a b c h1 h2 => ?_) (fun a b => ?_) as).imp fun {a b} h => by simpa using h
  · simp only [Bool.not_eq_true', decide_eq_false_iff_not] at *
    intro h
    rcases Pln.tri a b with z | z | z
    · exact h2 (Pln.tr _ _ _ h z)
    · subst z; exact h2 h
    · exact h1 z
  · simp only [Bool.or_eq_true, Bool.not_eq_true', decide_eq_false_iff_not]
    rcases Pln.tri a b with z | z | z
    · exact .inl fun q => Pln.irr _ (Pln.tr _ _ _ z q)
    · subst z; exact .inl (Pln.irr _)
    · exact .inr fun q => Pln.irr _ (Pln.tr _ _ _ z q)
theorem srt_lt {as : List α} (h : as.Nodup) : (srt as).Pairwise Pln.lt := by
  refine (List.pairwise_and_iff.mpr ⟨srt_le as, (srt_perm as).nodup_iff.mpr h⟩).imp fun {a b} ⟨h1, h2⟩ => ?_
  rcases Pln.tri a b with z | z | z
  · exact z
  · exact absurd z h2
  · exact absurd z h1
theorem lt_nodup {as : List α} (h : as.Pairwise Pln.lt) : as.Nodup := h.imp fun {a b} z e => by subst e; exact Pln.irr _ z
/-- two lists in order of the same things are the same -/
theorem lt_uniq : ∀ {as bs : List α}, as.Pairwise Pln.lt → bs.Pairwise Pln.lt → (∀ a, a ∈ as ↔ a ∈ bs) → as = bs
  | [], [], _, _, _ => rfl
  | [], b :: bs, _, _, h => absurd ((h b).mpr List.mem_cons_self) (by simp)
  | a :: as, [], _, _, h => absurd ((h a).mp List.mem_cons_self) (by simp)
  | a :: as, b :: bs, p, q, h => by
    obtain ⟨p1, p2⟩ := List.pairwise_cons.mp p
    obtain ⟨q1, q2⟩ := List.pairwise_cons.mp q
    have e : a = b := by
      rcases List.mem_cons.mp ((h a).mp List.mem_cons_self) with z | z
      · exact z
      · rcases List.mem_cons.mp ((h b).mpr List.mem_cons_self) with y | y
        · exact y.symm
        · exact absurd (Pln.tr _ _ _ (q1 _ z) (p1 _ y)) (Pln.irr _)
    subst e
    congr 1
    refine lt_uniq p2 q2 fun c => ⟨fun hc => ?_, fun hc => ?_⟩
    · rcases List.mem_cons.mp ((h c).mp (List.mem_cons_of_mem _ hc)) with z | z
      · subst z; exact absurd (p1 _ hc) (Pln.irr _)
      · exact z
    · rcases List.mem_cons.mp ((h c).mpr (List.mem_cons_of_mem _ hc)) with z | z
      · subst z; exact absurd (q1 _ hc) (Pln.irr _)
      · exact z
theorem srt_eq {as bs : List α} (h : as.Nodup) (q : bs.Pairwise Pln.lt) (m : ∀ a, a ∈ as ↔ a ∈ bs) : srt as = bs := lt_uniq (srt_lt h) q fun a => srt_mem.trans (m a)
theorem srt_self {as : List α} (q : as.Pairwise Pln.lt) : srt as = as := srt_eq (lt_nodup q) q fun _ => Iff.rfl
/-- in order, twice the same left: the same whatever the order was -/
theorem le_uniq : ∀ {as bs : List α}, as.Pairwise (fun a b => ¬ Pln.lt b a) → bs.Pairwise (fun a b => ¬ Pln.lt b a) → as.Perm bs → as = bs
  | [], bs, _, _, h => h.nil_eq
  | a :: as, [], _, _, h => absurd h.length_eq (by simp)
  | a :: as, b :: bs, p, q, h => by
    obtain ⟨p1, p2⟩ := List.pairwise_cons.mp p
    obtain ⟨q1, q2⟩ := List.pairwise_cons.mp q
    have e : a = b := by
      rcases List.mem_cons.mp (h.mem_iff.mp List.mem_cons_self) with z | z
      · exact z
      · rcases List.mem_cons.mp (h.mem_iff.mpr List.mem_cons_self) with y | y
        · exact y.symm
        · rcases Pln.tri a b with w | w | w
          · exact absurd w (q1 _ z)
          · exact w
          · exact absurd w (p1 _ y)
    subst e
    rw [le_uniq p2 q2 (List.Perm.cons_inv h)]
theorem srt_congr {as bs : List α} (h : as.Perm bs) : srt as = srt bs := le_uniq (srt_le _) (srt_le _) ((srt_perm as).trans (h.trans (srt_perm bs).symm))
theorem sortL_as (as : List α) : sortL (as.map Pln.e) = (srt as).map Pln.e := by
  unfold sortL srt
  refine (List.map_mergeSort (fun a _ b _ => ?_)).symm
  rw [PySem.W.dataLe_eq]
  show (!decide (Pln.lt b a)) = !PySem.W.dataLt (Pln.e b) (Pln.e a)
  rw [Pln.ltD]
theorem sortOk_as (as : List α) (h : as.length ≤ line) : sortOk (as.map Pln.e) = true := by
  unfold sortOk
  rw [Bool.and_eq_true, Bool.and_eq_true, Bool.and_eq_true]
  refine ⟨⟨⟨?_, Pln.so as⟩, ?_⟩, decide_eq_true (by rw [List.length_map]; exact h)⟩
  · refine List.all_eq_true.mpr fun d hd => List.all_eq_true.mpr fun e he => ?_
    obtain ⟨n, _, rfl⟩ := List.mem_map.mp hd
    obtain ⟨m, _, rfl⟩ := List.mem_map.mp he
    exact Pln.al _ _
  · refine List.all_eq_true.mpr fun d hd => ?_
    obtain ⟨n, _, rfl⟩ := List.mem_map.mp hd
    exact (Pln.pl _).sm (by decide)
theorem sortD_list (as : List α) (h : as.length ≤ line) : sortD [.list (as.map Pln.e)] = some (true, .list ((srt as).map Pln.e)) := by
  show (if sortOk (as.map Pln.e) = true then some (true, PyData.list (sortL (as.map Pln.e))) else none) = _
  rw [if_pos (sortOk_as as h), sortL_as]
end
section
variable {α : Type} [PlnK α] [DecidableEq α]
theorem sortD_dict (m : List (α × D)) (h : m.length ≤ line) : sortD [.dict (asD m)] = some (true, .list ((srt (m.map (·.1))).map Pln.e)) := by
  show (if sortOk ((asD m).map (·.1)) = true then some (true, PyData.list (sortL ((asD m).map (·.1)))) else none) = _
  rw [asD_keys, if_pos (sortOk_as _ (by rw [List.length_map]; exact h)), sortL_as]
end
section
variable {α : Type} [Pln α]
theorem nn_as (a : α) : notNone (Pln.e a) = true := Pln.nn a
theorem lt'_as (a b : α) : DL.lt' (Pln.e a) (Pln.e b) = true := by
  unfold DL.lt'
  rw [Pln.al, nn_as, (Pln.pl a).sm (by decide), (Pln.pl b).sm (by decide)]; rfl
theorem ltD_as (a b : α) : DL.ltD (Pln.e a) (Pln.e b) = some (false, .bool (decide (Pln.lt a b))) := by
  unfold DL.ltD; rw [if_pos (lt'_as a b), Pln.ltD]; rfl
theorem gtD_as (a b : α) : DL.gtD (Pln.e a) (Pln.e b) = some (false, .bool (decide (Pln.lt b a))) := by
  unfold DL.gtD; rw [if_pos (lt'_as a b), Pln.ltD]; rfl
theorem leD_as (a b : α) : DL.leD (Pln.e a) (Pln.e b) = some (false, .bool (!decide (Pln.lt b a))) := by
  unfold DL.leD; rw [if_pos (lt'_as a b), Pln.ltD]; rfl
theorem geD_as (a b : α) : DL.geD (Pln.e a) (Pln.e b) = some (false, .bool (!decide (Pln.lt a b))) := by
  unfold DL.geD; rw [if_pos (lt'_as a b), Pln.ltD]; rfl
end
/-! ### update by pairs -/
theorem pairs_ints (ks : List Int) (v : D) : pairsO (ks.map fun k => PyData.tuple [.int k, v]) = some (ks.map fun k => (PyData.int k, v)) := by
  induction ks with
  | nil => rfl
  | cons k ks ih => rw [List.map_cons]; unfold pairsO; rw [ih]; rfl
theorem merge_as (v : D) : ∀ (ks : List Int) (m : List (Int × D)), dmerge (asD m) (ks.map fun k => (PyData.int k, v)) = asD (ks.foldl (fun m k => pput m k v) m)
  | [], m => rfl
  | k :: ks, m => by
    show dmerge (dput (asD m) (Pln.e k) v) (ks.map fun k => (PyData.int k, v)) = _
    rw [dput_as, merge_as v ks]; rfl
theorem upd_as (m : List (Int × D)) (ks : List Int) (v : D) (h : m.length + ks.length ≤ 10000000) : updD (.dict (asD m)) (.list (ks.map fun k => PyData.tuple [.int k, v])) = some (.dict (asD (ks.foldl (fun m k => pput m k v) m)), .none) := by
  unfold updD
  dsimp only
  rw [pairs_ints]
  dsimp only
  have kf : keyFor (asD m) (.int 0) = true := keyFor_as m (0 : Int) (.inr rfl)
  rw [if_pos ⟨kf, by rw [asD_len, List.length_map]; exact Nat.le_trans h (by decide)⟩, merge_as]
theorem walk_as (m : List (Int × D)) : walkO (.dict (asD m)) = some ((m.map (·.1)).map PyData.int) := by
  have kf : keyFor (asD m) (.int 0) = true := keyFor_as m (0 : Int) (.inr rfl)
  show (if keyFor (asD m) (.int 0) = true then some ((asD m).map (·.1)) else none) = _
  rw [if_pos kf, asD_keys]; rfl
/-! ### lists and tuples of them -/
section
variable {α : Type} [Pln α] [DecidableEq α]
def lsD (as : List α) : D := .list (as.map Pln.e)
def tpD (as : List α) : D := .tuple (as.map Pln.e)
theorem pl_all (as : List α) : ∀ d ∈ as.map (Pln.e : α → D), Pl 1 d := fun d hd => by
  obtain ⟨a, _, rfl⟩ := List.mem_map.mp hd
  exact Pln.pl a
theorem pl_ls (as : List α) : Pl 2 (lsD as) := pl_lst (pl_all as)
theorem pl_tp (as : List α) : Pl 2 (tpD as) := pl_tup (pl_all as)
theorem eqv_e (a b : α) : PyData.eqv (Pln.e a) (Pln.e b) = decide (a = b) := by
  rw [Bool.eq_iff_iff, decide_eq_true_iff]; exact Pln.eqv a b
theorem eqvAll_as : ∀ as bs : List α, PyData.eqvAll (as.map Pln.e) (bs.map Pln.e) = decide (as = bs)
  | [], [] => by simp [PyData.eqvAll]
  | [], b :: bs => by simp [PyData.eqvAll]
  | a :: as, [] => by simp [PyData.eqvAll]
  | a :: as, b :: bs => by
    rw [List.map_cons, List.map_cons, PyData.eqvAll, eqv_e, eqvAll_as as bs]
    simp [List.cons.injEq]
theorem eqD_e (a b : α) : eqD (Pln.e a) (Pln.e b) = some (false, .bool (decide (a = b))) := by rw [e_eqG ((Pln.pl a).sm (by decide)) ((Pln.pl b).sm (by decide)), eqv_e]
theorem neD_e (a b : α) : neD (Pln.e a) (Pln.e b) = some (false, .bool (!decide (a = b))) := by rw [e_neG ((Pln.pl a).sm (by decide)) ((Pln.pl b).sm (by decide)), eqv_e]
theorem eqv_ls (as bs : List α) : PyData.eqv (lsD as) (lsD bs) = decide (as = bs) := by
  unfold lsD; rw [PyData.eqv, eqvAll_as]
theorem eqv_tp (as bs : List α) : PyData.eqv (tpD as) (tpD bs) = decide (as = bs) := by
  unfold tpD; rw [PyData.eqv, eqvAll_as]
theorem eqD_ls (as bs : List α) : eqD (lsD as) (lsD bs) = some (false, .bool (decide (as = bs))) := by rw [e_eqG ((pl_ls as).sm (by decide)) ((pl_ls bs).sm (by decide)), eqv_ls]
theorem neD_ls (as bs : List α) : neD (lsD as) (lsD bs) = some (false, .bool (!decide (as = bs))) := by rw [e_neG ((pl_ls as).sm (by decide)) ((pl_ls bs).sm (by decide)), eqv_ls]
theorem eqD_tp (as bs : List α) : eqD (tpD as) (tpD bs) = some (false, .bool (decide (as = bs))) := by rw [e_eqG ((pl_tp as).sm (by decide)) ((pl_tp bs).sm (by decide)), eqv_tp]
theorem neD_tp (as bs : List α) : neD (tpD as) (tpD bs) = some (false, .bool (!decide (as = bs))) := by rw [e_neG ((pl_tp as).sm (by decide)) ((pl_tp bs).sm (by decide)), eqv_tp]
theorem eqD_ls0 (as : List α) : eqD (lsD as) (.list []) = some (false, .bool (decide (as = []))) := eqD_ls as []
theorem neD_ls0 (as : List α) : neD (lsD as) (.list []) = some (false, .bool (!decide (as = []))) := neD_ls as []
theorem eqD_tp0 (as : List α) : eqD (tpD as) (.tuple []) = some (false, .bool (decide (as = []))) := eqD_tp as []
theorem neD_tp0 (as : List α) : neD (tpD as) (.tuple []) = some (false, .bool (!decide (as = []))) := neD_tp as []
theorem app_ls {as : List α} {a : α} (h : as.length < 10000) : appD (lsD as) (Pln.e a) = some (lsD (as ++ [a]), .none) := by
  unfold lsD
  rw [appD_list (Nat.lt_of_lt_of_le (show (as.map Pln.e).length < 10000 by rw [List.length_map]; exact h) (by decide)), List.map_append]; rfl
theorem ix_ls {as : List α} {i : Int} {a : α} (h : 0 ≤ i) (e : as[i.toNat]? = some a) : ixD (lsD as) (.int i) = some (false, Pln.e a) := by
  unfold lsD; rw [e_ixL h, List.getElem?_map, e]; rfl
theorem ix_tp {as : List α} {i : Int} {a : α} (h : 0 ≤ i) (e : as[i.toNat]? = some a) : ixD (tpD as) (.int i) = some (false, Pln.e a) := by
  unfold tpD; rw [e_ixT h, List.getElem?_map, e]; rfl
theorem len_ls (as : List α) : lenD [lsD as] = some (false, .int as.length) := by unfold lsD; rw [e_lenL, List.length_map]
theorem len_tp (as : List α) : lenD [tpD as] = some (false, .int as.length) := by unfold tpD; rw [e_lenT, List.length_map]
theorem sort_ls (as : List α) (h : as.length < 10000) : sortD [lsD as] = some (true, lsD (srt as)) := sortD_list as (Nat.le_of_lt (Nat.lt_of_lt_of_le h (by decide)))
theorem tup_ls (as : List α) : tupleD [lsD as] = some (false, tpD as) := rfl
theorem lst_tp (as : List α) : listD [tpD as] = some (true, lsD as) := rfl
end
/-! ### a loop by an invariant -/
theorem loop_I {α S : Type} (enc : α → D) (env : S → DEnv) {g : TgM} {b : SM} {vs : List Nat} (I : S → List α → Prop)
    (h : ∀ s x xs, I s (x :: xs) → ∃ s' δ1 δ2, g (enc x) (env s) = some δ1 ∧ b δ1 = .nx δ2 ∧ fgt vs δ2 = env s' ∧ I s' xs) :
    ∀ (xs : List α) (s : S), I s xs → ∃ s', loopS g b vs (xs.map enc) (env s) = .nx (env s') ∧ I s' []
  | [], s, i => ⟨s, rfl, i⟩
  | x :: xs, s, i => by
    obtain ⟨s1, δ1, δ2, e1, e2, e3, i1⟩ := h s x xs i
    obtain ⟨s2, e4, i2⟩ := loop_I enc env I h xs s1 i1
    refine ⟨s2, ?_, i2⟩
    rw [List.map_cons]
    unfold loopS
    rw [e1]
    dsimp only
    rw [e2]
    dsimp only
    rw [e3, e4]
end DL

namespace LW
open PySem PySem.Spec PyProof.Rows L2 DL
def t__law_well : SM := (seqS (ifS (boolM (bin2 geD (varM 0) (bin2 powD (conM (.int 10)) (conM (.int 18))))) (seqS (retS (lstM (consM (persM (bin2 subD (varM 0) (bin2 powD (conM (.int 10)) (conM (.int 18))))) (consM (persM (bin2 modD (varM 0) (conM (.int 2305843009213693951)))) (consM (persM (varM 1)) nilM))))) passS) passS) (seqS (retS (lstM (consM (persM (conM (.int 0))) (consM (persM (bin2 modD (varM 0) (conM (.int 2305843009213693951)))) (consM (persM (varM 1)) nilM))))) passS))
def f__law_well : FSem := runF 2 2 false t__law_well
def t__law_take : SM := (seqS (ifS (boolM (bin2 gtD (bin2 ixD (varM 0) (conM (.int 0))) (conM (.int 0)))) (seqS (setS 2 (bin2 modD (bin2 ixD (varM 0) (conM (.int 0))) (varM 1))) (seqS (stS 0 (conM (.int 0)) (bin2 fdivD (bin2 ixD (varM 0) (conM (.int 0))) (varM 1))) (seqS (retS (varM 2)) passS))) passS) (seqS (stS 0 (conM (.int 2)) (bin2 addD (bin2 ixD (varM 0) (conM (.int 2))) (conM (.int 1)))) (seqS (setS 3 (conM (.int 2305843009213693951))) (seqS (setS 4 (bin2 modD (bin2 addD (bin2 ixD (varM 0) (conM (.int 1))) (bin2 mulD (conM (.int 1000003)) (bin2 ixD (varM 0) (conM (.int 2))))) (varM 3))) (seqS (setS 4 (bin2 modD (bin2 addD (bin2 addD (bin2 mulD (varM 4) (varM 4)) (bin2 mulD (conM (.int 7919)) (bin2 powD (bin2 ixD (varM 0) (conM (.int 2))) (conM (.int 2))))) (conM (.int 5))) (varM 3))) (seqS (retS (bin2 modD (bin2 fdivD (bin2 modD (bin2 powD (varM 4) (conM (.int 3))) (varM 3)) (conM (.int 13))) (varM 1))) passS))))))
def f__law_take : FSem := runF 5 2 true t__law_take
def t_is_whole : SM := (seqS (retS (andM (un1 (isaD [.int]) (varM 0)) (notM (un1 (isaD [.bool]) (varM 0))))) passS)
def f_is_whole : FSem := runF 1 1 false t_is_whole
def t_is_within : SM := (seqS (retS (andM (callF f_is_whole (consM (persM (varM 0)) nilM)) (chn2 leD leD (varM 1) (varM 0) (varM 2)))) passS)
def f_is_within : FSem := runF 3 3 false t_is_within
def ce_are_rows_0 : M D := persM (andM (un1 (isaD [.tuple]) (varM 3)) (bin2 eqD (callM lenD (opd1 (varM 3))) (varM 1)))
def c_are_rows_0 : M R := lcM (walkM (varM 0)) (tgN 3) yesM ce_are_rows_0 [3]
def t_are_rows : SM := (seqS (ifS (orB (notB (boolM (un1 (isaD [.tuple]) (varM 0)))) (boolM (bin2 gtD (callM lenD (opd1 (varM 0))) (varM 2)))) (seqS (retS (conM (.bool false))) passS) passS) (seqS (retS (callM allD (opd1 c_are_rows_0))) passS))
def f_are_rows : FSem := runF 4 3 false t_are_rows
def ce__law_same_0 (F : FSem) : M D := persM (callF F (consM (persM (varM 2)) (consM (persM (varM 3)) nilM)))
def c__law_same_0 (F : FSem) : M R := lcM (mapM1 (consM (persM (varM 0)) (consM (persM (varM 1)) nilM)) zip2O) (tgT (tgCons (tgN 2) (tgCons (tgN 3) tgNil))) yesM (ce__law_same_0 F) [2, 3]
def t__law_same (F : FSem) : SM := (seqS (ifS (orB (andB (boolM (un1 (isaD [.list]) (varM 0))) (boolM (un1 (isaD [.list]) (varM 1)))) (andB (boolM (un1 (isaD [.tuple]) (varM 0))) (boolM (un1 (isaD [.tuple]) (varM 1))))) (seqS (retS (andM (bin2 eqD (callM lenD (opd1 (varM 0))) (callM lenD (opd1 (varM 1)))) (callM allD (opd1 (c__law_same_0 F))))) passS) passS) (seqS (ifS (orB (boolM (un1 (isaD [.bool, .list, .tuple]) (varM 0))) (boolM (un1 (isaD [.bool, .list, .tuple]) (varM 1)))) (seqS (retS (andM (un1 (isaD [.bool]) (varM 0)) (andM (un1 (isaD [.bool]) (varM 1)) (bin2 eqD (varM 0) (varM 1))))) passS) passS) (seqS (ifS (orB (boolM (un1 (isaD [.int]) (varM 0))) (boolM (un1 (isaD [.int]) (varM 1)))) (seqS (retS (andM (un1 (isaD [.int]) (varM 0)) (andM (un1 (isaD [.int]) (varM 1)) (bin2 eqD (varM 0) (varM 1))))) passS) passS) (seqS (ifS (orB (boolM (un1 (isaD [.str]) (varM 0))) (boolM (un1 (isaD [.str]) (varM 1)))) (seqS (retS (andM (un1 (isaD [.str]) (varM 0)) (andM (un1 (isaD [.str]) (varM 1)) (bin2 eqD (varM 0) (varM 1))))) passS) passS) (seqS (retS (andM (bin2 isD (varM 0) (conM .none)) (bin2 isD (varM 1) (conM .none)))) passS)))))
def f__law_same : Nat → FSem
  | 0 => fun _ => .bad
  | n + 1 => runF 4 2 false (t__law_same (f__law_same n))
end LW

namespace LW
open PySem PySem.Spec PyProof.Rows L2 DL
/-! ### bags -/
/-- a bag that has been drawn from so often at the most -/
def Bg (n : Int) (y : PyData) : Prop := ∃ a b c : Int, y = .list [.int a, .int b, .int c] ∧ 0 ≤ a ∧ 0 ≤ b ∧ b < 2305843009213693951 ∧ 0 ≤ c ∧ c ≤ n
theorem Bg.mono {n m : Int} {y : PyData} (h : Bg n y) (l : n ≤ m) : Bg m y := by
  obtain ⟨a, b, c, e, h1, h2, h3, h4, h5⟩ := h
  exact ⟨a, b, c, e, h1, h2, h3, h4, by omega⟩
theorem sm_lt {i : Int} (h : -1000000000000000000000000000000 < i) (h' : i < 1000000000000000000000000000000) : sm1 i := by
  have e : (1000000000000000000000000000000 : Nat) < 2 ^ 1000 := by decide
  unfold sm1 Sm
  exact Nat.lt_trans (by omega) e
theorem take_ok {n m : Int} {y : PyData} (h : Bg n y) (hm : 0 < m) (hm2 : m < 1000000000000) (hn : n < 1000000000) :
    ∃ v y', f__law_take [y, .int m] = .ok false (.int v) y' ∧ 0 ≤ v ∧ v < m ∧ Bg (n + 1) y' := by
  obtain ⟨a, b, c, rfl, ha, hb, hb2, hc, hcn⟩ := h
  have e0 : env0 5 true [.list [.int a, .int b, .int c], .int m] = [some (.bor, .list [.int a, .int b, .int c]), some (.pers, .int m), none, none, none] := rfl
  have hsm : sm1 m := sm_lt (by omega) (by omega)
  by_cases ha0 : 0 < a
  · refine ⟨a % m, _, ?_, Int.emod_nonneg _ (by omega), Int.emod_lt_of_pos _ hm, a / m, b, c, rfl, Int.ediv_nonneg ha (by omega), hb, hb2, hc, by omega⟩
    refine Eq.trans (run_eq (t := t__law_take) (n := 5) (np := 2) (bor := true) rfl) ?_
    rw [e0]
    unfold t__law_take
    simp only [bd_ok, bd_ex, bd_bad, q_pure, q_optS, q_optN, sq_nx, sq_rt, sq_ex, sq_bad, q_seq, q_pass, of_ok, of_ex, of_bad, q_expr, q_if, q_ret, ret_val, ret_new, q_raise, q_var, sv_pers, sv_own, sv_bor, q_con, q_datV, q_datN, q_datS, sd_some, q_optRS, q_optRN, res_t, res_f, q_bin2, q_un1, q_persM, pr_val, pr_new, pr_slot, sp_own, q_mvM, mv_val, mv_new, mv_slot, sm_own, q_set, q_free, fr_none, fr_pers, fr_own, put_val, put_new, q_not, q_andB, q_orB, q_boolM, br_bool, q_andM, q_orM, q_notM, q_ifM, q_chn2, ch_bool, q_cons, q_nil, q_tup, q_lst, q_opd1, q_opd2, q_callM, q_callF, fr_ok, fr_ex, fr_bad, q_callB, ld_own, ld_bor, fb_ok, fb_ex, q_has, has_some, os_ok, ns_some, ms_own, ms_bor, q_st, mt_some, mu_own, mu_bor, q_mutV, q_ownT, ow_own, ow_bor, q_m1, q_m0, q_tgN, q_tg, q_tgR, to_some, tgT_tup, tgT_lst, tgC_cons, tgN_nil, q_for, q_map1, q_walk, so_list, so_tup, wo_list, wo_tup, e_add, e_sub, e_neg, e_lt, e_gt, e_le, e_ge, e_eq, e_ne, e_isN, e_isnN, e_isB, e_isnB, pk_some, e_ixL, e_ixT, e_lastL, e_lastT, e_part, e_intR, e_noPart, e_slice, e_slL, e_slT, q_par, q_par1, q_par2, po_val, po_new, nx_some, q_getM, q_getE, gate_some, go_int, dat_val, q_pop2, ow_dict, fin_nx, fin_rt, fin_ex, bor_t, bor_f, e_lenL, e_lenT, e_abs, e_min, e_max, e_int, e_intB, e_tupL, e_tupT, e_lstL, e_lstT, e_all, e_any, e_sum, e_isa, e_set0, e_set2, Int.reduceLE, Int.reduceLT, Int.reduceToNat, Int.reduceNeg, Int.le_refl, Int.toNat_zero, List.getElem?_cons_zero, List.getElem?_cons_succ, List.set_cons_zero, List.set_cons_succ, Option.bind_some, Bool.false_eq_true, if_true, if_false, ite_true, ite_false, reduceIte, decide_true, decide_false, Bool.not_true, Bool.not_false, List.map_cons, List.map_nil, List.any_cons, List.any_nil, Bool.or_false, Bool.or_true, Bool.true_or, Bool.false_or, Bool.and_true, Bool.true_and, Bool.false_and, Bool.and_false, ha0, e_mod hm, e_fdiv1 hm hsm]
  · have p0 : (0 : Int) < 2305843009213693951 := by decide
    generalize hk : (b + 1000003 * (c + 1)) % 2305843009213693951 = k
    generalize hk2 : (k * k + 7919 * (c + 1) ^ 2 + 5) % 2305843009213693951 = k2
    have k0 : 0 ≤ k := by rw [← hk]; exact Int.emod_nonneg _ (by decide)
    have k1 : k < 2305843009213693951 := by rw [← hk]; exact Int.emod_lt_of_pos _ p0
    have k20 : 0 ≤ k2 := by rw [← hk2]; exact Int.emod_nonneg _ (by decide)
    have k21 : k2 < 2305843009213693951 := by rw [← hk2]; exact Int.emod_lt_of_pos _ p0
    have m1 := e_mul1 (i := 1000003) (j := c + 1) (sm_lt (by decide) (by decide)) (sm_lt (by omega) (by omega))
    have m2 := e_mul1 (i := k) (j := k) (sm_lt (by omega) (by omega)) (sm_lt (by omega) (by omega))
    have w1 : powD (.int (c + 1)) (.int 2) = some (false, .int ((c + 1) ^ 2)) := e_pow (i := c + 1) (j := 2) (by decide) (by decide) (by omega)
    have w2 : powD (.int k2) (.int 3) = some (false, .int (k2 ^ 3)) := e_pow (i := k2) (j := 3) (by decide) (by decide) (by omega)
    have m3 := e_mul1 (i := 7919) (j := (c + 1) ^ 2) (sm_lt (by decide) (by decide)) (by
      have : Sm 64 (c + 1) := sm_of (by omega) (by omega)
      have q := (this.mul this).mono (m := 1000) (by decide)
      show Sm 1000 ((c + 1) ^ 2)
      rw [Int.pow_succ, Int.pow_succ, Int.pow_zero, Int.one_mul]
      exact q)
    have d1 := e_fdiv1 (i := k2 ^ 3 % 2305843009213693951) (j := 13) (by decide) (sm_lt (by decide) (by decide))
    refine ⟨k2 ^ 3 % 2305843009213693951 / 13 % m, _, ?_, Int.emod_nonneg _ (by omega), Int.emod_lt_of_pos _ hm, a, b, c + 1, rfl, ha, hb, hb2, by omega, by omega⟩
    refine Eq.trans (run_eq (t := t__law_take) (n := 5) (np := 2) (bor := true) rfl) ?_
    rw [e0]
    unfold t__law_take
    simp only [bd_ok, bd_ex, bd_bad, q_pure, q_optS, q_optN, sq_nx, sq_rt, sq_ex, sq_bad, q_seq, q_pass, of_ok, of_ex, of_bad, q_expr, q_if, q_ret, ret_val, ret_new, q_raise, q_var, sv_pers, sv_own, sv_bor, q_con, q_datV, q_datN, q_datS, sd_some, q_optRS, q_optRN, res_t, res_f, q_bin2, q_un1, q_persM, pr_val, pr_new, pr_slot, sp_own, q_mvM, mv_val, mv_new, mv_slot, sm_own, q_set, q_free, fr_none, fr_pers, fr_own, put_val, put_new, q_not, q_andB, q_orB, q_boolM, br_bool, q_andM, q_orM, q_notM, q_ifM, q_chn2, ch_bool, q_cons, q_nil, q_tup, q_lst, q_opd1, q_opd2, q_callM, q_callF, fr_ok, fr_ex, fr_bad, q_callB, ld_own, ld_bor, fb_ok, fb_ex, q_has, has_some, os_ok, ns_some, ms_own, ms_bor, q_st, mt_some, mu_own, mu_bor, q_mutV, q_ownT, ow_own, ow_bor, q_m1, q_m0, q_tgN, q_tg, q_tgR, to_some, tgT_tup, tgT_lst, tgC_cons, tgN_nil, q_for, q_map1, q_walk, so_list, so_tup, wo_list, wo_tup, e_add, e_sub, e_neg, e_lt, e_gt, e_le, e_ge, e_eq, e_ne, e_isN, e_isnN, e_isB, e_isnB, pk_some, e_ixL, e_ixT, e_lastL, e_lastT, e_part, e_intR, e_noPart, e_slice, e_slL, e_slT, q_par, q_par1, q_par2, po_val, po_new, nx_some, q_getM, q_getE, gate_some, go_int, dat_val, q_pop2, ow_dict, fin_nx, fin_rt, fin_ex, bor_t, bor_f, e_lenL, e_lenT, e_abs, e_min, e_max, e_int, e_intB, e_tupL, e_tupT, e_lstL, e_lstT, e_all, e_any, e_sum, e_isa, e_set0, e_set2, Int.reduceLE, Int.reduceLT, Int.reduceToNat, Int.reduceNeg, Int.le_refl, Int.toNat_zero, List.getElem?_cons_zero, List.getElem?_cons_succ, List.set_cons_zero, List.set_cons_succ, Option.bind_some, Bool.false_eq_true, if_true, if_false, ite_true, ite_false, reduceIte, decide_true, decide_false, Bool.not_true, Bool.not_false, List.map_cons, List.map_nil, List.any_cons, List.any_nil, Bool.or_false, Bool.or_true, Bool.true_or, Bool.false_or, Bool.and_true, Bool.true_and, Bool.false_and, Bool.and_false, ha0, e_mod hm, e_mod p0, m1, hk, m2, w1, m3, hk2, w2, d1]
/-- a bag made -/
theorem well_ok (c k : Int) : f__law_well [.int c, .int k] = .ok true (if 10 ^ 18 ≤ c then .list [.int (c - 10 ^ 18), .int (c % 2305843009213693951), .int k] else .list [.int 0, .int (c % 2305843009213693951), .int k]) .none := by
  refine Eq.trans (run_eq (t := t__law_well) (n := 2) (np := 2) (bor := false) rfl) ?_
  rw [show env0 2 false [.int c, .int k] = [some (.pers, .int c), some (.pers, .int k)] from rfl]
  have w18 : powD (.int 10) (.int 18) = some (false, .int (10 ^ 18)) := e_pow (i := 10) (j := 18) (by decide) (by decide) (by decide)
  have m := e_mod (i := c) (j := 2305843009213693951) (by decide)
  unfold t__law_well
  by_cases h : (10 : Int) ^ 18 ≤ c
  · simp only [bd_ok, bd_ex, bd_bad, q_pure, q_optS, q_optN, sq_nx, sq_rt, sq_ex, sq_bad, q_seq, q_pass, of_ok, of_ex, of_bad, q_expr, q_if, q_ret, ret_val, ret_new, q_raise, q_var, sv_pers, sv_own, sv_bor, q_con, q_datV, q_datN, q_datS, sd_some, q_optRS, q_optRN, res_t, res_f, q_bin2, q_un1, q_persM, pr_val, pr_new, pr_slot, sp_own, q_mvM, mv_val, mv_new, mv_slot, sm_own, q_set, q_free, fr_none, fr_pers, fr_own, put_val, put_new, q_not, q_andB, q_orB, q_boolM, br_bool, q_andM, q_orM, q_notM, q_ifM, q_chn2, ch_bool, q_cons, q_nil, q_tup, q_lst, q_opd1, q_opd2, q_callM, q_callF, fr_ok, fr_ex, fr_bad, q_callB, ld_own, ld_bor, fb_ok, fb_ex, q_has, has_some, os_ok, ns_some, ms_own, ms_bor, q_st, mt_some, mu_own, mu_bor, q_mutV, q_ownT, ow_own, ow_bor, q_m1, q_m0, q_tgN, q_tg, q_tgR, to_some, tgT_tup, tgT_lst, tgC_cons, tgN_nil, q_for, q_map1, q_walk, so_list, so_tup, wo_list, wo_tup, e_add, e_sub, e_neg, e_lt, e_gt, e_le, e_ge, e_eq, e_ne, e_isN, e_isnN, e_isB, e_isnB, pk_some, e_ixL, e_ixT, e_lastL, e_lastT, e_part, e_intR, e_noPart, e_slice, e_slL, e_slT, q_par, q_par1, q_par2, po_val, po_new, nx_some, q_getM, q_getE, gate_some, go_int, dat_val, q_pop2, ow_dict, fin_nx, fin_rt, fin_ex, bor_t, bor_f, e_lenL, e_lenT, e_abs, e_min, e_max, e_int, e_intB, e_tupL, e_tupT, e_lstL, e_lstT, e_all, e_any, e_sum, e_isa, e_set0, e_set2, Int.reduceLE, Int.reduceLT, Int.reduceToNat, Int.reduceNeg, Int.le_refl, Int.toNat_zero, List.getElem?_cons_zero, List.getElem?_cons_succ, List.set_cons_zero, List.set_cons_succ, Option.bind_some, Bool.false_eq_true, if_true, if_false, ite_true, ite_false, reduceIte, decide_true, decide_false, Bool.not_true, Bool.not_false, List.map_cons, List.map_nil, List.any_cons, List.any_nil, Bool.or_false, Bool.or_true, Bool.true_or, Bool.false_or, Bool.and_true, Bool.true_and, Bool.false_and, Bool.and_false, w18, m, h]
  · simp only [bd_ok, bd_ex, bd_bad, q_pure, q_optS, q_optN, sq_nx, sq_rt, sq_ex, sq_bad, q_seq, q_pass, of_ok, of_ex, of_bad, q_expr, q_if, q_ret, ret_val, ret_new, q_raise, q_var, sv_pers, sv_own, sv_bor, q_con, q_datV, q_datN, q_datS, sd_some, q_optRS, q_optRN, res_t, res_f, q_bin2, q_un1, q_persM, pr_val, pr_new, pr_slot, sp_own, q_mvM, mv_val, mv_new, mv_slot, sm_own, q_set, q_free, fr_none, fr_pers, fr_own, put_val, put_new, q_not, q_andB, q_orB, q_boolM, br_bool, q_andM, q_orM, q_notM, q_ifM, q_chn2, ch_bool, q_cons, q_nil, q_tup, q_lst, q_opd1, q_opd2, q_callM, q_callF, fr_ok, fr_ex, fr_bad, q_callB, ld_own, ld_bor, fb_ok, fb_ex, q_has, has_some, os_ok, ns_some, ms_own, ms_bor, q_st, mt_some, mu_own, mu_bor, q_mutV, q_ownT, ow_own, ow_bor, q_m1, q_m0, q_tgN, q_tg, q_tgR, to_some, tgT_tup, tgT_lst, tgC_cons, tgN_nil, q_for, q_map1, q_walk, so_list, so_tup, wo_list, wo_tup, e_add, e_sub, e_neg, e_lt, e_gt, e_le, e_ge, e_eq, e_ne, e_isN, e_isnN, e_isB, e_isnB, pk_some, e_ixL, e_ixT, e_lastL, e_lastT, e_part, e_intR, e_noPart, e_slice, e_slL, e_slT, q_par, q_par1, q_par2, po_val, po_new, nx_some, q_getM, q_getE, gate_some, go_int, dat_val, q_pop2, ow_dict, fin_nx, fin_rt, fin_ex, bor_t, bor_f, e_lenL, e_lenT, e_abs, e_min, e_max, e_int, e_intB, e_tupL, e_tupT, e_lstL, e_lstT, e_all, e_any, e_sum, e_isa, e_set0, e_set2, Int.reduceLE, Int.reduceLT, Int.reduceToNat, Int.reduceNeg, Int.le_refl, Int.toNat_zero, List.getElem?_cons_zero, List.getElem?_cons_succ, List.set_cons_zero, List.set_cons_succ, Option.bind_some, Bool.false_eq_true, if_true, if_false, ite_true, ite_false, reduceIte, decide_true, decide_false, Bool.not_true, Bool.not_false, List.map_cons, List.map_nil, List.any_cons, List.any_nil, Bool.or_false, Bool.or_true, Bool.true_or, Bool.false_or, Bool.and_true, Bool.true_and, Bool.false_and, Bool.and_false, w18, m, h]
theorem bags_hm (i : Nat) (c : Int) (hi : i ≤ 200) : ∃ δ1 y δ2, (tgT (tgCons (tgN 2) (tgCons (tgN 3) tgNil))) (.tuple [.int (i : Nat), .int c]) (blankE 4) = some δ1 ∧ (callF f__law_well (consM (persM (varM 3)) (consM (persM (bin2 mulD (conM (.int 977)) (varM 2))) nilM))) δ1 = .ok (.new y) δ2 ∧ IsBag y := by
  have m := e_mul1 (i := 977) (j := (i : Int)) (sm_lt (by decide) (by decide)) (sm_lt (by omega) (by omega))
  have r0 : 0 ≤ c % 2305843009213693951 := Int.emod_nonneg _ (by decide)
  have r1 : c % 2305843009213693951 < 2305843009213693951 := Int.emod_lt_of_pos _ (by decide)
  refine ⟨[none, none, some (.pers, .int i), some (.pers, .int c)], _, _, rfl, by simp only [bd_ok, bd_ex, bd_bad, q_pure, q_optS, q_optN, sq_nx, sq_rt, sq_ex, sq_bad, q_seq, q_pass, of_ok, of_ex, of_bad, q_expr, q_if, q_ret, ret_val, ret_new, q_raise, q_var, sv_pers, sv_own, sv_bor, q_con, q_datV, q_datN, q_datS, sd_some, q_optRS, q_optRN, res_t, res_f, q_bin2, q_un1, q_persM, pr_val, pr_new, pr_slot, sp_own, q_mvM, mv_val, mv_new, mv_slot, sm_own, q_set, q_free, fr_none, fr_pers, fr_own, put_val, put_new, q_not, q_andB, q_orB, q_boolM, br_bool, q_andM, q_orM, q_notM, q_ifM, q_chn2, ch_bool, q_cons, q_nil, q_tup, q_lst, q_opd1, q_opd2, q_callM, q_callF, fr_ok, fr_ex, fr_bad, q_callB, ld_own, ld_bor, fb_ok, fb_ex, q_has, has_some, os_ok, ns_some, ms_own, ms_bor, q_st, mt_some, mu_own, mu_bor, q_mutV, q_ownT, ow_own, ow_bor, q_m1, q_m0, q_tgN, q_tg, q_tgR, to_some, tgT_tup, tgT_lst, tgC_cons, tgN_nil, q_for, q_map1, q_walk, so_list, so_tup, wo_list, wo_tup, e_add, e_sub, e_neg, e_lt, e_gt, e_le, e_ge, e_eq, e_ne, e_isN, e_isnN, e_isB, e_isnB, pk_some, e_ixL, e_ixT, e_lastL, e_lastT, e_part, e_intR, e_noPart, e_slice, e_slL, e_slT, q_par, q_par1, q_par2, po_val, po_new, nx_some, q_getM, q_getE, gate_some, go_int, dat_val, q_pop2, ow_dict, fin_nx, fin_rt, fin_ex, bor_t, bor_f, e_lenL, e_lenT, e_abs, e_min, e_max, e_int, e_intB, e_tupL, e_tupT, e_lstL, e_lstT, e_all, e_any, e_sum, e_isa, e_set0, e_set2, Int.reduceLE, Int.reduceLT, Int.reduceToNat, Int.reduceNeg, Int.le_refl, Int.toNat_zero, List.getElem?_cons_zero, List.getElem?_cons_succ, List.set_cons_zero, List.set_cons_succ, Option.bind_some, Bool.false_eq_true, if_true, if_false, ite_true, ite_false, reduceIte, decide_true, decide_false, Bool.not_true, Bool.not_false, List.map_cons, List.map_nil, List.any_cons, List.any_nil, Bool.or_false, Bool.or_true, Bool.true_or, Bool.false_or, Bool.and_true, Bool.true_and, Bool.false_and, Bool.and_false, m, well_ok]; rfl, ?_⟩
  by_cases h : (10 : Int) ^ 18 ≤ c
  · rw [if_pos h]; exact ⟨_, _, _, rfl, by omega, r0, r1, by omega, by omega⟩
  · rw [if_neg h]; exact ⟨_, _, _, rfl, by decide, r0, r1, by omega, by omega⟩
theorem all_true {α : Type} (ds : List α) : (ds.map fun _ => true).all id = true := by
  induction ds with
  | nil => rfl
  | cons d ds ih => rw [List.map_cons, List.all_cons, ih]; rfl
theorem e_allT {α : Type} (ds : List α) : allD [.list (ds.map fun _ => PyData.bool true)] = some (false, .bool true) := by
  have : (ds.map fun _ => PyData.bool true) = (ds.map fun _ => true).map PyData.bool := by rw [List.map_map]; rfl
  rw [this, e_all, all_true]
theorem line20 {n : Nat} (h : n ≤ 1000) : n ≤ line := by show n ≤ 16777216; omega

/-! ### whole numbers, rows -/
def isI : PyData → Bool
  | .int _ => true
  | _ => false
def inI : PyData → Int → Int → Bool
  | .int i, lo, hi => decide (lo ≤ i) && decide (i ≤ hi)
  | _, _, _ => false
theorem is_whole_g (d : PyData) : f_is_whole [d] = .ok false (.bool (isI d)) .none := by
  refine Eq.trans (run_eq (t := t_is_whole) (n := 1) (np := 1) (bor := false) rfl) ?_
  rw [show env0 1 false [d] = [some (.pers, d)] from rfl]
  unfold t_is_whole
  cases d <;> rfl
theorem is_within_g (d : PyData) (lo hi : Int) : f_is_within [d, .int lo, .int hi] = .ok false (.bool (inI d lo hi)) .none := by
  refine Eq.trans (run_eq (t := t_is_within) (n := 3) (np := 3) (bor := false) rfl) ?_
  rw [show env0 3 false [d, .int lo, .int hi] = [some (.pers, d), some (.pers, .int lo), some (.pers, .int hi)] from rfl]
  unfold t_is_within
  cases d with
  | int i =>
    simp only [bd_ok, bd_ex, bd_bad, q_pure, q_optS, q_optN, sq_nx, sq_rt, sq_ex, sq_bad, q_seq, q_pass, of_ok, of_ex, of_bad, q_expr, q_if, q_ret, ret_val, ret_new, q_raise, q_var, sv_pers, sv_own, sv_bor, q_con, q_datV, q_datN, q_datS, sd_some, q_optRS, q_optRN, res_t, res_f, q_bin2, q_un1, q_persM, pr_val, pr_new, pr_slot, sp_own, q_mvM, mv_val, mv_new, mv_slot, sm_own, q_set, q_free, fr_none, fr_pers, fr_own, put_val, put_new, q_not, q_andB, q_orB, q_boolM, br_bool, q_andM, q_orM, q_notM, q_ifM, q_chn2, ch_bool, q_cons, q_nil, q_tup, q_lst, q_opd1, q_opd2, q_callM, q_callF, fr_ok, fr_ex, fr_bad, q_callB, ld_own, ld_bor, fb_ok, fb_ex, q_has, has_some, os_ok, ns_some, ms_own, ms_bor, q_st, mt_some, mu_own, mu_bor, q_mutV, q_ownT, ow_own, ow_bor, q_m1, q_m0, q_tgN, q_tg, q_tgR, to_some, tgT_tup, tgT_lst, tgC_cons, tgN_nil, q_for, q_map1, q_walk, so_list, so_tup, wo_list, wo_tup, e_add, e_sub, e_neg, e_lt, e_gt, e_le, e_ge, e_eq, e_ne, e_isN, e_isnN, e_isB, e_isnB, pk_some, e_ixL, e_ixT, e_lastL, e_lastT, e_part, e_intR, e_noPart, e_slice, e_slL, e_slT, q_par, q_par1, q_par2, po_val, po_new, nx_some, q_getM, q_getE, gate_some, go_int, dat_val, q_pop2, ow_dict, fin_nx, fin_rt, fin_ex, bor_t, bor_f, e_lenL, e_lenT, e_abs, e_min, e_max, e_int, e_intB, e_tupL, e_tupT, e_lstL, e_lstT, e_all, e_any, e_sum, e_isa, e_set0, e_set2, Int.reduceLE, Int.reduceLT, Int.reduceToNat, Int.reduceNeg, Int.le_refl, Int.toNat_zero, List.getElem?_cons_zero, List.getElem?_cons_succ, List.set_cons_zero, List.set_cons_succ, Option.bind_some, Bool.false_eq_true, if_true, if_false, ite_true, ite_false, reduceIte, decide_true, decide_false, Bool.not_true, Bool.not_false, List.map_cons, List.map_nil, List.any_cons, List.any_nil, Bool.or_false, Bool.or_true, Bool.true_or, Bool.false_or, Bool.and_true, Bool.true_and, Bool.false_and, Bool.and_false, is_whole_g, isI, inI]
    by_cases h : lo ≤ i
    · simp only [bd_ok, bd_ex, bd_bad, q_pure, q_optS, q_optN, sq_nx, sq_rt, sq_ex, sq_bad, q_seq, q_pass, of_ok, of_ex, of_bad, q_expr, q_if, q_ret, ret_val, ret_new, q_raise, q_var, sv_pers, sv_own, sv_bor, q_con, q_datV, q_datN, q_datS, sd_some, q_optRS, q_optRN, res_t, res_f, q_bin2, q_un1, q_persM, pr_val, pr_new, pr_slot, sp_own, q_mvM, mv_val, mv_new, mv_slot, sm_own, q_set, q_free, fr_none, fr_pers, fr_own, put_val, put_new, q_not, q_andB, q_orB, q_boolM, br_bool, q_andM, q_orM, q_notM, q_ifM, q_chn2, ch_bool, q_cons, q_nil, q_tup, q_lst, q_opd1, q_opd2, q_callM, q_callF, fr_ok, fr_ex, fr_bad, q_callB, ld_own, ld_bor, fb_ok, fb_ex, q_has, has_some, os_ok, ns_some, ms_own, ms_bor, q_st, mt_some, mu_own, mu_bor, q_mutV, q_ownT, ow_own, ow_bor, q_m1, q_m0, q_tgN, q_tg, q_tgR, to_some, tgT_tup, tgT_lst, tgC_cons, tgN_nil, q_for, q_map1, q_walk, so_list, so_tup, wo_list, wo_tup, e_add, e_sub, e_neg, e_lt, e_gt, e_le, e_ge, e_eq, e_ne, e_isN, e_isnN, e_isB, e_isnB, pk_some, e_ixL, e_ixT, e_lastL, e_lastT, e_part, e_intR, e_noPart, e_slice, e_slL, e_slT, q_par, q_par1, q_par2, po_val, po_new, nx_some, q_getM, q_getE, gate_some, go_int, dat_val, q_pop2, ow_dict, fin_nx, fin_rt, fin_ex, bor_t, bor_f, e_lenL, e_lenT, e_abs, e_min, e_max, e_int, e_intB, e_tupL, e_tupT, e_lstL, e_lstT, e_all, e_any, e_sum, e_isa, e_set0, e_set2, Int.reduceLE, Int.reduceLT, Int.reduceToNat, Int.reduceNeg, Int.le_refl, Int.toNat_zero, List.getElem?_cons_zero, List.getElem?_cons_succ, List.set_cons_zero, List.set_cons_succ, Option.bind_some, Bool.false_eq_true, if_true, if_false, ite_true, ite_false, reduceIte, decide_true, decide_false, Bool.not_true, Bool.not_false, List.map_cons, List.map_nil, List.any_cons, List.any_nil, Bool.or_false, Bool.or_true, Bool.true_or, Bool.false_or, Bool.and_true, Bool.true_and, Bool.false_and, Bool.and_false, h]
    · simp only [bd_ok, bd_ex, bd_bad, q_pure, q_optS, q_optN, sq_nx, sq_rt, sq_ex, sq_bad, q_seq, q_pass, of_ok, of_ex, of_bad, q_expr, q_if, q_ret, ret_val, ret_new, q_raise, q_var, sv_pers, sv_own, sv_bor, q_con, q_datV, q_datN, q_datS, sd_some, q_optRS, q_optRN, res_t, res_f, q_bin2, q_un1, q_persM, pr_val, pr_new, pr_slot, sp_own, q_mvM, mv_val, mv_new, mv_slot, sm_own, q_set, q_free, fr_none, fr_pers, fr_own, put_val, put_new, q_not, q_andB, q_orB, q_boolM, br_bool, q_andM, q_orM, q_notM, q_ifM, q_chn2, ch_bool, q_cons, q_nil, q_tup, q_lst, q_opd1, q_opd2, q_callM, q_callF, fr_ok, fr_ex, fr_bad, q_callB, ld_own, ld_bor, fb_ok, fb_ex, q_has, has_some, os_ok, ns_some, ms_own, ms_bor, q_st, mt_some, mu_own, mu_bor, q_mutV, q_ownT, ow_own, ow_bor, q_m1, q_m0, q_tgN, q_tg, q_tgR, to_some, tgT_tup, tgT_lst, tgC_cons, tgN_nil, q_for, q_map1, q_walk, so_list, so_tup, wo_list, wo_tup, e_add, e_sub, e_neg, e_lt, e_gt, e_le, e_ge, e_eq, e_ne, e_isN, e_isnN, e_isB, e_isnB, pk_some, e_ixL, e_ixT, e_lastL, e_lastT, e_part, e_intR, e_noPart, e_slice, e_slL, e_slT, q_par, q_par1, q_par2, po_val, po_new, nx_some, q_getM, q_getE, gate_some, go_int, dat_val, q_pop2, ow_dict, fin_nx, fin_rt, fin_ex, bor_t, bor_f, e_lenL, e_lenT, e_abs, e_min, e_max, e_int, e_intB, e_tupL, e_tupT, e_lstL, e_lstT, e_all, e_any, e_sum, e_isa, e_set0, e_set2, Int.reduceLE, Int.reduceLT, Int.reduceToNat, Int.reduceNeg, Int.le_refl, Int.toNat_zero, List.getElem?_cons_zero, List.getElem?_cons_succ, List.set_cons_zero, List.set_cons_succ, Option.bind_some, Bool.false_eq_true, if_true, if_false, ite_true, ite_false, reduceIte, decide_true, decide_false, Bool.not_true, Bool.not_false, List.map_cons, List.map_nil, List.any_cons, List.any_nil, Bool.or_false, Bool.or_true, Bool.true_or, Bool.false_or, Bool.and_true, Bool.true_and, Bool.false_and, Bool.and_false, h]
  | none => simp only [bd_ok, bd_ex, bd_bad, q_pure, q_optS, q_optN, sq_nx, sq_rt, sq_ex, sq_bad, q_seq, q_pass, of_ok, of_ex, of_bad, q_expr, q_if, q_ret, ret_val, ret_new, q_raise, q_var, sv_pers, sv_own, sv_bor, q_con, q_datV, q_datN, q_datS, sd_some, q_optRS, q_optRN, res_t, res_f, q_bin2, q_un1, q_persM, pr_val, pr_new, pr_slot, sp_own, q_mvM, mv_val, mv_new, mv_slot, sm_own, q_set, q_free, fr_none, fr_pers, fr_own, put_val, put_new, q_not, q_andB, q_orB, q_boolM, br_bool, q_andM, q_orM, q_notM, q_ifM, q_chn2, ch_bool, q_cons, q_nil, q_tup, q_lst, q_opd1, q_opd2, q_callM, q_callF, fr_ok, fr_ex, fr_bad, q_callB, ld_own, ld_bor, fb_ok, fb_ex, q_has, has_some, os_ok, ns_some, ms_own, ms_bor, q_st, mt_some, mu_own, mu_bor, q_mutV, q_ownT, ow_own, ow_bor, q_m1, q_m0, q_tgN, q_tg, q_tgR, to_some, tgT_tup, tgT_lst, tgC_cons, tgN_nil, q_for, q_map1, q_walk, so_list, so_tup, wo_list, wo_tup, e_add, e_sub, e_neg, e_lt, e_gt, e_le, e_ge, e_eq, e_ne, e_isN, e_isnN, e_isB, e_isnB, pk_some, e_ixL, e_ixT, e_lastL, e_lastT, e_part, e_intR, e_noPart, e_slice, e_slL, e_slT, q_par, q_par1, q_par2, po_val, po_new, nx_some, q_getM, q_getE, gate_some, go_int, dat_val, q_pop2, ow_dict, fin_nx, fin_rt, fin_ex, bor_t, bor_f, e_lenL, e_lenT, e_abs, e_min, e_max, e_int, e_intB, e_tupL, e_tupT, e_lstL, e_lstT, e_all, e_any, e_sum, e_isa, e_set0, e_set2, Int.reduceLE, Int.reduceLT, Int.reduceToNat, Int.reduceNeg, Int.le_refl, Int.toNat_zero, List.getElem?_cons_zero, List.getElem?_cons_succ, List.set_cons_zero, List.set_cons_succ, Option.bind_some, Bool.false_eq_true, if_true, if_false, ite_true, ite_false, reduceIte, decide_true, decide_false, Bool.not_true, Bool.not_false, List.map_cons, List.map_nil, List.any_cons, List.any_nil, Bool.or_false, Bool.or_true, Bool.true_or, Bool.false_or, Bool.and_true, Bool.true_and, Bool.false_and, Bool.and_false, is_whole_g, isI, inI]
  | bool _ => simp only [bd_ok, bd_ex, bd_bad, q_pure, q_optS, q_optN, sq_nx, sq_rt, sq_ex, sq_bad, q_seq, q_pass, of_ok, of_ex, of_bad, q_expr, q_if, q_ret, ret_val, ret_new, q_raise, q_var, sv_pers, sv_own, sv_bor, q_con, q_datV, q_datN, q_datS, sd_some, q_optRS, q_optRN, res_t, res_f, q_bin2, q_un1, q_persM, pr_val, pr_new, pr_slot, sp_own, q_mvM, mv_val, mv_new, mv_slot, sm_own, q_set, q_free, fr_none, fr_pers, fr_own, put_val, put_new, q_not, q_andB, q_orB, q_boolM, br_bool, q_andM, q_orM, q_notM, q_ifM, q_chn2, ch_bool, q_cons, q_nil, q_tup, q_lst, q_opd1, q_opd2, q_callM, q_callF, fr_ok, fr_ex, fr_bad, q_callB, ld_own, ld_bor, fb_ok, fb_ex, q_has, has_some, os_ok, ns_some, ms_own, ms_bor, q_st, mt_some, mu_own, mu_bor, q_mutV, q_ownT, ow_own, ow_bor, q_m1, q_m0, q_tgN, q_tg, q_tgR, to_some, tgT_tup, tgT_lst, tgC_cons, tgN_nil, q_for, q_map1, q_walk, so_list, so_tup, wo_list, wo_tup, e_add, e_sub, e_neg, e_lt, e_gt, e_le, e_ge, e_eq, e_ne, e_isN, e_isnN, e_isB, e_isnB, pk_some, e_ixL, e_ixT, e_lastL, e_lastT, e_part, e_intR, e_noPart, e_slice, e_slL, e_slT, q_par, q_par1, q_par2, po_val, po_new, nx_some, q_getM, q_getE, gate_some, go_int, dat_val, q_pop2, ow_dict, fin_nx, fin_rt, fin_ex, bor_t, bor_f, e_lenL, e_lenT, e_abs, e_min, e_max, e_int, e_intB, e_tupL, e_tupT, e_lstL, e_lstT, e_all, e_any, e_sum, e_isa, e_set0, e_set2, Int.reduceLE, Int.reduceLT, Int.reduceToNat, Int.reduceNeg, Int.le_refl, Int.toNat_zero, List.getElem?_cons_zero, List.getElem?_cons_succ, List.set_cons_zero, List.set_cons_succ, Option.bind_some, Bool.false_eq_true, if_true, if_false, ite_true, ite_false, reduceIte, decide_true, decide_false, Bool.not_true, Bool.not_false, List.map_cons, List.map_nil, List.any_cons, List.any_nil, Bool.or_false, Bool.or_true, Bool.true_or, Bool.false_or, Bool.and_true, Bool.true_and, Bool.false_and, Bool.and_false, is_whole_g, isI, inI]
  | str _ => simp only [bd_ok, bd_ex, bd_bad, q_pure, q_optS, q_optN, sq_nx, sq_rt, sq_ex, sq_bad, q_seq, q_pass, of_ok, of_ex, of_bad, q_expr, q_if, q_ret, ret_val, ret_new, q_raise, q_var, sv_pers, sv_own, sv_bor, q_con, q_datV, q_datN, q_datS, sd_some, q_optRS, q_optRN, res_t, res_f, q_bin2, q_un1, q_persM, pr_val, pr_new, pr_slot, sp_own, q_mvM, mv_val, mv_new, mv_slot, sm_own, q_set, q_free, fr_none, fr_pers, fr_own, put_val, put_new, q_not, q_andB, q_orB, q_boolM, br_bool, q_andM, q_orM, q_notM, q_ifM, q_chn2, ch_bool, q_cons, q_nil, q_tup, q_lst, q_opd1, q_opd2, q_callM, q_callF, fr_ok, fr_ex, fr_bad, q_callB, ld_own, ld_bor, fb_ok, fb_ex, q_has, has_some, os_ok, ns_some, ms_own, ms_bor, q_st, mt_some, mu_own, mu_bor, q_mutV, q_ownT, ow_own, ow_bor, q_m1, q_m0, q_tgN, q_tg, q_tgR, to_some, tgT_tup, tgT_lst, tgC_cons, tgN_nil, q_for, q_map1, q_walk, so_list, so_tup, wo_list, wo_tup, e_add, e_sub, e_neg, e_lt, e_gt, e_le, e_ge, e_eq, e_ne, e_isN, e_isnN, e_isB, e_isnB, pk_some, e_ixL, e_ixT, e_lastL, e_lastT, e_part, e_intR, e_noPart, e_slice, e_slL, e_slT, q_par, q_par1, q_par2, po_val, po_new, nx_some, q_getM, q_getE, gate_some, go_int, dat_val, q_pop2, ow_dict, fin_nx, fin_rt, fin_ex, bor_t, bor_f, e_lenL, e_lenT, e_abs, e_min, e_max, e_int, e_intB, e_tupL, e_tupT, e_lstL, e_lstT, e_all, e_any, e_sum, e_isa, e_set0, e_set2, Int.reduceLE, Int.reduceLT, Int.reduceToNat, Int.reduceNeg, Int.le_refl, Int.toNat_zero, List.getElem?_cons_zero, List.getElem?_cons_succ, List.set_cons_zero, List.set_cons_succ, Option.bind_some, Bool.false_eq_true, if_true, if_false, ite_true, ite_false, reduceIte, decide_true, decide_false, Bool.not_true, Bool.not_false, List.map_cons, List.map_nil, List.any_cons, List.any_nil, Bool.or_false, Bool.or_true, Bool.true_or, Bool.false_or, Bool.and_true, Bool.true_and, Bool.false_and, Bool.and_false, is_whole_g, isI, inI]
  | list _ => simp only [bd_ok, bd_ex, bd_bad, q_pure, q_optS, q_optN, sq_nx, sq_rt, sq_ex, sq_bad, q_seq, q_pass, of_ok, of_ex, of_bad, q_expr, q_if, q_ret, ret_val, ret_new, q_raise, q_var, sv_pers, sv_own, sv_bor, q_con, q_datV, q_datN, q_datS, sd_some, q_optRS, q_optRN, res_t, res_f, q_bin2, q_un1, q_persM, pr_val, pr_new, pr_slot, sp_own, q_mvM, mv_val, mv_new, mv_slot, sm_own, q_set, q_free, fr_none, fr_pers, fr_own, put_val, put_new, q_not, q_andB, q_orB, q_boolM, br_bool, q_andM, q_orM, q_notM, q_ifM, q_chn2, ch_bool, q_cons, q_nil, q_tup, q_lst, q_opd1, q_opd2, q_callM, q_callF, fr_ok, fr_ex, fr_bad, q_callB, ld_own, ld_bor, fb_ok, fb_ex, q_has, has_some, os_ok, ns_some, ms_own, ms_bor, q_st, mt_some, mu_own, mu_bor, q_mutV, q_ownT, ow_own, ow_bor, q_m1, q_m0, q_tgN, q_tg, q_tgR, to_some, tgT_tup, tgT_lst, tgC_cons, tgN_nil, q_for, q_map1, q_walk, so_list, so_tup, wo_list, wo_tup, e_add, e_sub, e_neg, e_lt, e_gt, e_le, e_ge, e_eq, e_ne, e_isN, e_isnN, e_isB, e_isnB, pk_some, e_ixL, e_ixT, e_lastL, e_lastT, e_part, e_intR, e_noPart, e_slice, e_slL, e_slT, q_par, q_par1, q_par2, po_val, po_new, nx_some, q_getM, q_getE, gate_some, go_int, dat_val, q_pop2, ow_dict, fin_nx, fin_rt, fin_ex, bor_t, bor_f, e_lenL, e_lenT, e_abs, e_min, e_max, e_int, e_intB, e_tupL, e_tupT, e_lstL, e_lstT, e_all, e_any, e_sum, e_isa, e_set0, e_set2, Int.reduceLE, Int.reduceLT, Int.reduceToNat, Int.reduceNeg, Int.le_refl, Int.toNat_zero, List.getElem?_cons_zero, List.getElem?_cons_succ, List.set_cons_zero, List.set_cons_succ, Option.bind_some, Bool.false_eq_true, if_true, if_false, ite_true, ite_false, reduceIte, decide_true, decide_false, Bool.not_true, Bool.not_false, List.map_cons, List.map_nil, List.any_cons, List.any_nil, Bool.or_false, Bool.or_true, Bool.true_or, Bool.false_or, Bool.and_true, Bool.true_and, Bool.false_and, Bool.and_false, is_whole_g, isI, inI]
  | tuple _ => simp only [bd_ok, bd_ex, bd_bad, q_pure, q_optS, q_optN, sq_nx, sq_rt, sq_ex, sq_bad, q_seq, q_pass, of_ok, of_ex, of_bad, q_expr, q_if, q_ret, ret_val, ret_new, q_raise, q_var, sv_pers, sv_own, sv_bor, q_con, q_datV, q_datN, q_datS, sd_some, q_optRS, q_optRN, res_t, res_f, q_bin2, q_un1, q_persM, pr_val, pr_new, pr_slot, sp_own, q_mvM, mv_val, mv_new, mv_slot, sm_own, q_set, q_free, fr_none, fr_pers, fr_own, put_val, put_new, q_not, q_andB, q_orB, q_boolM, br_bool, q_andM, q_orM, q_notM, q_ifM, q_chn2, ch_bool, q_cons, q_nil, q_tup, q_lst, q_opd1, q_opd2, q_callM, q_callF, fr_ok, fr_ex, fr_bad, q_callB, ld_own, ld_bor, fb_ok, fb_ex, q_has, has_some, os_ok, ns_some, ms_own, ms_bor, q_st, mt_some, mu_own, mu_bor, q_mutV, q_ownT, ow_own, ow_bor, q_m1, q_m0, q_tgN, q_tg, q_tgR, to_some, tgT_tup, tgT_lst, tgC_cons, tgN_nil, q_for, q_map1, q_walk, so_list, so_tup, wo_list, wo_tup, e_add, e_sub, e_neg, e_lt, e_gt, e_le, e_ge, e_eq, e_ne, e_isN, e_isnN, e_isB, e_isnB, pk_some, e_ixL, e_ixT, e_lastL, e_lastT, e_part, e_intR, e_noPart, e_slice, e_slL, e_slT, q_par, q_par1, q_par2, po_val, po_new, nx_some, q_getM, q_getE, gate_some, go_int, dat_val, q_pop2, ow_dict, fin_nx, fin_rt, fin_ex, bor_t, bor_f, e_lenL, e_lenT, e_abs, e_min, e_max, e_int, e_intB, e_tupL, e_tupT, e_lstL, e_lstT, e_all, e_any, e_sum, e_isa, e_set0, e_set2, Int.reduceLE, Int.reduceLT, Int.reduceToNat, Int.reduceNeg, Int.le_refl, Int.toNat_zero, List.getElem?_cons_zero, List.getElem?_cons_succ, List.set_cons_zero, List.set_cons_succ, Option.bind_some, Bool.false_eq_true, if_true, if_false, ite_true, ite_false, reduceIte, decide_true, decide_false, Bool.not_true, Bool.not_false, List.map_cons, List.map_nil, List.any_cons, List.any_nil, Bool.or_false, Bool.or_true, Bool.true_or, Bool.false_or, Bool.and_true, Bool.true_and, Bool.false_and, Bool.and_false, is_whole_g, isI, inI]
  | dict _ => simp only [bd_ok, bd_ex, bd_bad, q_pure, q_optS, q_optN, sq_nx, sq_rt, sq_ex, sq_bad, q_seq, q_pass, of_ok, of_ex, of_bad, q_expr, q_if, q_ret, ret_val, ret_new, q_raise, q_var, sv_pers, sv_own, sv_bor, q_con, q_datV, q_datN, q_datS, sd_some, q_optRS, q_optRN, res_t, res_f, q_bin2, q_un1, q_persM, pr_val, pr_new, pr_slot, sp_own, q_mvM, mv_val, mv_new, mv_slot, sm_own, q_set, q_free, fr_none, fr_pers, fr_own, put_val, put_new, q_not, q_andB, q_orB, q_boolM, br_bool, q_andM, q_orM, q_notM, q_ifM, q_chn2, ch_bool, q_cons, q_nil, q_tup, q_lst, q_opd1, q_opd2, q_callM, q_callF, fr_ok, fr_ex, fr_bad, q_callB, ld_own, ld_bor, fb_ok, fb_ex, q_has, has_some, os_ok, ns_some, ms_own, ms_bor, q_st, mt_some, mu_own, mu_bor, q_mutV, q_ownT, ow_own, ow_bor, q_m1, q_m0, q_tgN, q_tg, q_tgR, to_some, tgT_tup, tgT_lst, tgC_cons, tgN_nil, q_for, q_map1, q_walk, so_list, so_tup, wo_list, wo_tup, e_add, e_sub, e_neg, e_lt, e_gt, e_le, e_ge, e_eq, e_ne, e_isN, e_isnN, e_isB, e_isnB, pk_some, e_ixL, e_ixT, e_lastL, e_lastT, e_part, e_intR, e_noPart, e_slice, e_slL, e_slT, q_par, q_par1, q_par2, po_val, po_new, nx_some, q_getM, q_getE, gate_some, go_int, dat_val, q_pop2, ow_dict, fin_nx, fin_rt, fin_ex, bor_t, bor_f, e_lenL, e_lenT, e_abs, e_min, e_max, e_int, e_intB, e_tupL, e_tupT, e_lstL, e_lstT, e_all, e_any, e_sum, e_isa, e_set0, e_set2, Int.reduceLE, Int.reduceLT, Int.reduceToNat, Int.reduceNeg, Int.le_refl, Int.toNat_zero, List.getElem?_cons_zero, List.getElem?_cons_succ, List.set_cons_zero, List.set_cons_succ, Option.bind_some, Bool.false_eq_true, if_true, if_false, ite_true, ite_false, reduceIte, decide_true, decide_false, Bool.not_true, Bool.not_false, List.map_cons, List.map_nil, List.any_cons, List.any_nil, Bool.or_false, Bool.or_true, Bool.true_or, Bool.false_or, Bool.and_true, Bool.true_and, Bool.false_and, Bool.and_false, is_whole_g, isI, inI]
theorem within_true {i lo hi : Int} (h : lo ≤ i) (h' : i ≤ hi) : f_is_within [.int i, .int lo, .int hi] = .ok false (.bool true) .none := by
  rw [is_within_g]; show FRes.ok false (.bool (decide (lo ≤ i) && decide (i ≤ hi))) .none = _; rw [decide_eq_true h, decide_eq_true h']; rfl
theorem are_rows_ok {ds : List PyData} {size high : Int} (hl : (ds.length : Int) ≤ high) (h2 : ds.length ≤ line) (h : ∀ d ∈ ds, ∃ xs, d = .tuple xs ∧ (xs.length : Int) = size) : f_are_rows [.tuple ds, .int size, .int high] = .ok false (.bool true) .none := by
  refine Eq.trans (run_eq (t := t_are_rows) (n := 4) (np := 3) (bor := false) rfl) ?_
  rw [show env0 4 false [.tuple ds, .int size, .int high] = [some (.pers, .tuple ds), some (.pers, .int size), some (.pers, .int high), none] from rfl]
  have hc : c_are_rows_0 [some (.pers, .tuple ds), some (.pers, .int size), some (.pers, .int high), none] = .ok (.new (.list (ds.map fun _ => .bool true))) [some (.pers, .tuple ds), some (.pers, .int size), some (.pers, .int high), none] := by
    refine lcm_map (fun _ => .bool true) (by simp only [bd_ok, bd_ex, bd_bad, q_pure, q_optS, q_optN, sq_nx, sq_rt, sq_ex, sq_bad, q_seq, q_pass, of_ok, of_ex, of_bad, q_expr, q_if, q_ret, ret_val, ret_new, q_raise, q_var, sv_pers, sv_own, sv_bor, q_con, q_datV, q_datN, q_datS, sd_some, q_optRS, q_optRN, res_t, res_f, q_bin2, q_un1, q_persM, pr_val, pr_new, pr_slot, sp_own, q_mvM, mv_val, mv_new, mv_slot, sm_own, q_set, q_free, fr_none, fr_pers, fr_own, put_val, put_new, q_not, q_andB, q_orB, q_boolM, br_bool, q_andM, q_orM, q_notM, q_ifM, q_chn2, ch_bool, q_cons, q_nil, q_tup, q_lst, q_opd1, q_opd2, q_callM, q_callF, fr_ok, fr_ex, fr_bad, q_callB, ld_own, ld_bor, fb_ok, fb_ex, q_has, has_some, os_ok, ns_some, ms_own, ms_bor, q_st, mt_some, mu_own, mu_bor, q_mutV, q_ownT, ow_own, ow_bor, q_m1, q_m0, q_tgN, q_tg, q_tgR, to_some, tgT_tup, tgT_lst, tgC_cons, tgN_nil, q_for, q_map1, q_walk, so_list, so_tup, wo_list, wo_tup, e_add, e_sub, e_neg, e_lt, e_gt, e_le, e_ge, e_eq, e_ne, e_isN, e_isnN, e_isB, e_isnB, pk_some, e_ixL, e_ixT, e_lastL, e_lastT, e_part, e_intR, e_noPart, e_slice, e_slL, e_slT, q_par, q_par1, q_par2, po_val, po_new, nx_some, q_getM, q_getE, gate_some, go_int, dat_val, q_pop2, ow_dict, fin_nx, fin_rt, fin_ex, bor_t, bor_f, e_lenL, e_lenT, e_abs, e_min, e_max, e_int, e_intB, e_tupL, e_tupT, e_lstL, e_lstT, e_all, e_any, e_sum, e_isa, e_set0, e_set2, Int.reduceLE, Int.reduceLT, Int.reduceToNat, Int.reduceNeg, Int.le_refl, Int.toNat_zero, List.getElem?_cons_zero, List.getElem?_cons_succ, List.set_cons_zero, List.set_cons_succ, Option.bind_some, Bool.false_eq_true, if_true, if_false, ite_true, ite_false, reduceIte, decide_true, decide_false, Bool.not_true, Bool.not_false, List.map_cons, List.map_nil, List.any_cons, List.any_nil, Bool.or_false, Bool.or_true, Bool.true_or, Bool.false_or, Bool.and_true, Bool.true_and, Bool.false_and, Bool.and_false]) rfl h2 fun d hd => ?_
    obtain ⟨xs, rfl, hx⟩ := h d hd
    refine ⟨[some (.pers, .tuple ds), some (.pers, .int size), some (.pers, .int high), some (.pers, .tuple xs)], [some (.pers, .tuple ds), some (.pers, .int size), some (.pers, .int high), some (.pers, .tuple xs)], rfl, ?_, rfl⟩
    unfold ce_are_rows_0
    simp only [bd_ok, bd_ex, bd_bad, q_pure, q_optS, q_optN, sq_nx, sq_rt, sq_ex, sq_bad, q_seq, q_pass, of_ok, of_ex, of_bad, q_expr, q_if, q_ret, ret_val, ret_new, q_raise, q_var, sv_pers, sv_own, sv_bor, q_con, q_datV, q_datN, q_datS, sd_some, q_optRS, q_optRN, res_t, res_f, q_bin2, q_un1, q_persM, pr_val, pr_new, pr_slot, sp_own, q_mvM, mv_val, mv_new, mv_slot, sm_own, q_set, q_free, fr_none, fr_pers, fr_own, put_val, put_new, q_not, q_andB, q_orB, q_boolM, br_bool, q_andM, q_orM, q_notM, q_ifM, q_chn2, ch_bool, q_cons, q_nil, q_tup, q_lst, q_opd1, q_opd2, q_callM, q_callF, fr_ok, fr_ex, fr_bad, q_callB, ld_own, ld_bor, fb_ok, fb_ex, q_has, has_some, os_ok, ns_some, ms_own, ms_bor, q_st, mt_some, mu_own, mu_bor, q_mutV, q_ownT, ow_own, ow_bor, q_m1, q_m0, q_tgN, q_tg, q_tgR, to_some, tgT_tup, tgT_lst, tgC_cons, tgN_nil, q_for, q_map1, q_walk, so_list, so_tup, wo_list, wo_tup, e_add, e_sub, e_neg, e_lt, e_gt, e_le, e_ge, e_eq, e_ne, e_isN, e_isnN, e_isB, e_isnB, pk_some, e_ixL, e_ixT, e_lastL, e_lastT, e_part, e_intR, e_noPart, e_slice, e_slL, e_slT, q_par, q_par1, q_par2, po_val, po_new, nx_some, q_getM, q_getE, gate_some, go_int, dat_val, q_pop2, ow_dict, fin_nx, fin_rt, fin_ex, bor_t, bor_f, e_lenL, e_lenT, e_abs, e_min, e_max, e_int, e_intB, e_tupL, e_tupT, e_lstL, e_lstT, e_all, e_any, e_sum, e_isa, e_set0, e_set2, Int.reduceLE, Int.reduceLT, Int.reduceToNat, Int.reduceNeg, Int.le_refl, Int.toNat_zero, List.getElem?_cons_zero, List.getElem?_cons_succ, List.set_cons_zero, List.set_cons_succ, Option.bind_some, Bool.false_eq_true, if_true, if_false, ite_true, ite_false, reduceIte, decide_true, decide_false, Bool.not_true, Bool.not_false, List.map_cons, List.map_nil, List.any_cons, List.any_nil, Bool.or_false, Bool.or_true, Bool.true_or, Bool.false_or, Bool.and_true, Bool.true_and, Bool.false_and, Bool.and_false, show Ty.tuple.is (.tuple xs) = true from rfl, hx]
  unfold t_are_rows
  have h1 : ¬ high < (ds.length : Int) := by omega
  simp only [bd_ok, bd_ex, bd_bad, q_pure, q_optS, q_optN, sq_nx, sq_rt, sq_ex, sq_bad, q_seq, q_pass, of_ok, of_ex, of_bad, q_expr, q_if, q_ret, ret_val, ret_new, q_raise, q_var, sv_pers, sv_own, sv_bor, q_con, q_datV, q_datN, q_datS, sd_some, q_optRS, q_optRN, res_t, res_f, q_bin2, q_un1, q_persM, pr_val, pr_new, pr_slot, sp_own, q_mvM, mv_val, mv_new, mv_slot, sm_own, q_set, q_free, fr_none, fr_pers, fr_own, put_val, put_new, q_not, q_andB, q_orB, q_boolM, br_bool, q_andM, q_orM, q_notM, q_ifM, q_chn2, ch_bool, q_cons, q_nil, q_tup, q_lst, q_opd1, q_opd2, q_callM, q_callF, fr_ok, fr_ex, fr_bad, q_callB, ld_own, ld_bor, fb_ok, fb_ex, q_has, has_some, os_ok, ns_some, ms_own, ms_bor, q_st, mt_some, mu_own, mu_bor, q_mutV, q_ownT, ow_own, ow_bor, q_m1, q_m0, q_tgN, q_tg, q_tgR, to_some, tgT_tup, tgT_lst, tgC_cons, tgN_nil, q_for, q_map1, q_walk, so_list, so_tup, wo_list, wo_tup, e_add, e_sub, e_neg, e_lt, e_gt, e_le, e_ge, e_eq, e_ne, e_isN, e_isnN, e_isB, e_isnB, pk_some, e_ixL, e_ixT, e_lastL, e_lastT, e_part, e_intR, e_noPart, e_slice, e_slL, e_slT, q_par, q_par1, q_par2, po_val, po_new, nx_some, q_getM, q_getE, gate_some, go_int, dat_val, q_pop2, ow_dict, fin_nx, fin_rt, fin_ex, bor_t, bor_f, e_lenL, e_lenT, e_abs, e_min, e_max, e_int, e_intB, e_tupL, e_tupT, e_lstL, e_lstT, e_all, e_any, e_sum, e_isa, e_set0, e_set2, Int.reduceLE, Int.reduceLT, Int.reduceToNat, Int.reduceNeg, Int.le_refl, Int.toNat_zero, List.getElem?_cons_zero, List.getElem?_cons_succ, List.set_cons_zero, List.set_cons_succ, Option.bind_some, Bool.false_eq_true, if_true, if_false, ite_true, ite_false, reduceIte, decide_true, decide_false, Bool.not_true, Bool.not_false, List.map_cons, List.map_nil, List.any_cons, List.any_nil, Bool.or_false, Bool.or_true, Bool.true_or, Bool.false_or, Bool.and_true, Bool.true_and, Bool.false_and, Bool.and_false, hc, e_allT, show Ty.tuple.is (.tuple ds) = true from rfl, h1]
/-! ### _law_same -/
/-- no dict in it, not too deep, not too long -/
def nd : Nat → PyData → Bool
  | 0, _ => false
  | n + 1, .list ds => decide (ds.length ≤ line) && ds.all (nd n)
  | n + 1, .tuple ds => decide (ds.length ≤ line) && ds.all (nd n)
  | _ + 1, .dict _ => false
  | _ + 1, _ => true
theorem e_eqB (a b : Bool) : eqD (.bool a) (.bool b) = some (false, .bool (decide (a = b))) := by
  unfold eqD
  rw [show sm (.bool a) = true from rfl, show sm (.bool b) = true from rfl]
  show some (false, PyData.bool (PyData.eqv (.bool a) (.bool b))) = _
  rw [PyData.eqv]; cases a <;> cases b <;> rfl
theorem e_eqStr (a b : Str) : eqD (.str a) (.str b) = some (false, .bool (decide (a = b))) := by
  unfold eqD
  rw [show sm (.str a) = true from rfl, show sm (.str b) = true from rfl]
  show some (false, PyData.bool (PyData.eqv (.str a) (.str b))) = _
  rw [PyData.eqv]; congr 2
def envS (a b : PyData) : DEnv := [some (.pers, a), some (.pers, b), none, none]
theorem same_comp {F : FSem} {a b : PyData} {xs ys : List PyData} (ha : seqO a = some xs) (hb : seqO b = some ys) (hl : xs.length ≤ line) (h : PyData → PyData → Bool) (k : ∀ x ∈ xs, ∀ y ∈ ys, F [x, y] = .ok false (.bool (h x y)) .none) :
    c__law_same_0 F (envS a b) = .ok (.new (.list ((List.zipWith h xs ys).map .bool))) (envS a b) := by
  have hz : (List.zipWith h xs ys).map PyData.bool = (xs.zip ys).map fun p => PyData.bool (h p.1 p.2) := by
    rw [List.zip, List.map_zipWith, List.map_zipWith]
  rw [hz]
  refine lcm_enc (fun p : PyData × PyData => PyData.tuple [p.1, p.2]) (xs.zip ys) (fun p => PyData.bool (h p.1 p.2)) ?_ rfl (by rw [List.length_zip]; omega) fun p hp => ?_
  · unfold envS
    simp only [bd_ok, bd_ex, bd_bad, q_pure, q_optS, q_optN, sq_nx, sq_rt, sq_ex, sq_bad, q_seq, q_pass, of_ok, of_ex, of_bad, q_expr, q_if, q_ret, ret_val, ret_new, q_raise, q_var, sv_pers, sv_own, sv_bor, q_con, q_datV, q_datN, q_datS, sd_some, q_optRS, q_optRN, res_t, res_f, q_bin2, q_un1, q_persM, pr_val, pr_new, pr_slot, sp_own, q_mvM, mv_val, mv_new, mv_slot, sm_own, q_set, q_free, fr_none, fr_pers, fr_own, put_val, put_new, q_not, q_andB, q_orB, q_boolM, br_bool, q_andM, q_orM, q_notM, q_ifM, q_chn2, ch_bool, q_cons, q_nil, q_tup, q_lst, q_opd1, q_opd2, q_callM, q_callF, fr_ok, fr_ex, fr_bad, q_callB, ld_own, ld_bor, fb_ok, fb_ex, q_has, has_some, os_ok, ns_some, ms_own, ms_bor, q_st, mt_some, mu_own, mu_bor, q_mutV, q_ownT, ow_own, ow_bor, q_m1, q_m0, q_tgN, q_tg, q_tgR, to_some, tgT_tup, tgT_lst, tgC_cons, tgN_nil, q_for, q_map1, q_walk, so_list, so_tup, wo_list, wo_tup, e_add, e_sub, e_neg, e_lt, e_gt, e_le, e_ge, e_eq, e_ne, e_isN, e_isnN, e_isB, e_isnB, pk_some, e_ixL, e_ixT, e_lastL, e_lastT, e_part, e_intR, e_noPart, e_slice, e_slL, e_slT, q_par, q_par1, q_par2, po_val, po_new, nx_some, q_getM, q_getE, gate_some, go_int, dat_val, q_pop2, ow_dict, fin_nx, fin_rt, fin_ex, bor_t, bor_f, e_lenL, e_lenT, e_abs, e_min, e_max, e_int, e_intB, e_tupL, e_tupT, e_lstL, e_lstT, e_all, e_any, e_sum, e_isa, e_set0, e_set2, Int.reduceLE, Int.reduceLT, Int.reduceToNat, Int.reduceNeg, Int.le_refl, Int.toNat_zero, List.getElem?_cons_zero, List.getElem?_cons_succ, List.set_cons_zero, List.set_cons_succ, Option.bind_some, Bool.false_eq_true, if_true, if_false, ite_true, ite_false, reduceIte, decide_true, decide_false, Bool.not_true, Bool.not_false, List.map_cons, List.map_nil, List.any_cons, List.any_nil, Bool.or_false, Bool.or_true, Bool.true_or, Bool.false_or, Bool.and_true, Bool.true_and, Bool.false_and, Bool.and_false, e_zip2 ha hb]
    rw [List.zip, List.map_zipWith]
  · obtain ⟨x, y⟩ := p
    obtain ⟨h1, h2⟩ := List.of_mem_zip hp
    refine ⟨[some (.pers, a), some (.pers, b), some (.pers, x), some (.pers, y)], [some (.pers, a), some (.pers, b), some (.pers, x), some (.pers, y)], rfl, ?_, rfl⟩
    unfold ce__law_same_0
    simp only [bd_ok, bd_ex, bd_bad, q_pure, q_optS, q_optN, sq_nx, sq_rt, sq_ex, sq_bad, q_seq, q_pass, of_ok, of_ex, of_bad, q_expr, q_if, q_ret, ret_val, ret_new, q_raise, q_var, sv_pers, sv_own, sv_bor, q_con, q_datV, q_datN, q_datS, sd_some, q_optRS, q_optRN, res_t, res_f, q_bin2, q_un1, q_persM, pr_val, pr_new, pr_slot, sp_own, q_mvM, mv_val, mv_new, mv_slot, sm_own, q_set, q_free, fr_none, fr_pers, fr_own, put_val, put_new, q_not, q_andB, q_orB, q_boolM, br_bool, q_andM, q_orM, q_notM, q_ifM, q_chn2, ch_bool, q_cons, q_nil, q_tup, q_lst, q_opd1, q_opd2, q_callM, q_callF, fr_ok, fr_ex, fr_bad, q_callB, ld_own, ld_bor, fb_ok, fb_ex, q_has, has_some, os_ok, ns_some, ms_own, ms_bor, q_st, mt_some, mu_own, mu_bor, q_mutV, q_ownT, ow_own, ow_bor, q_m1, q_m0, q_tgN, q_tg, q_tgR, to_some, tgT_tup, tgT_lst, tgC_cons, tgN_nil, q_for, q_map1, q_walk, so_list, so_tup, wo_list, wo_tup, e_add, e_sub, e_neg, e_lt, e_gt, e_le, e_ge, e_eq, e_ne, e_isN, e_isnN, e_isB, e_isnB, pk_some, e_ixL, e_ixT, e_lastL, e_lastT, e_part, e_intR, e_noPart, e_slice, e_slL, e_slT, q_par, q_par1, q_par2, po_val, po_new, nx_some, q_getM, q_getE, gate_some, go_int, dat_val, q_pop2, ow_dict, fin_nx, fin_rt, fin_ex, bor_t, bor_f, e_lenL, e_lenT, e_abs, e_min, e_max, e_int, e_intB, e_tupL, e_tupT, e_lstL, e_lstT, e_all, e_any, e_sum, e_isa, e_set0, e_set2, Int.reduceLE, Int.reduceLT, Int.reduceToNat, Int.reduceNeg, Int.le_refl, Int.toNat_zero, List.getElem?_cons_zero, List.getElem?_cons_succ, List.set_cons_zero, List.set_cons_succ, Option.bind_some, Bool.false_eq_true, if_true, if_false, ite_true, ite_false, reduceIte, decide_true, decide_false, Bool.not_true, Bool.not_false, List.map_cons, List.map_nil, List.any_cons, List.any_nil, Bool.or_false, Bool.or_true, Bool.true_or, Bool.false_or, Bool.and_true, Bool.true_and, Bool.false_and, Bool.and_false, k x h1 y h2]
theorem zip_all {h : PyData → PyData → Bool} : ∀ {xs ys : List PyData}, xs.length = ys.length → (∀ x ∈ xs, ∀ y ∈ ys, (h x y = true ↔ x = y)) → ((List.zipWith h xs ys).all id = true ↔ xs = ys)
  | [], [], _, _ => by simp
  | x :: xs, y :: ys, hl, k => by
    rw [List.zipWith_cons_cons, List.all_cons, Bool.and_eq_true, zip_all (by simpa using hl) fun u hu v hv => k u (List.mem_cons_of_mem _ hu) v (List.mem_cons_of_mem _ hv)]
    show h x y = true ∧ _ ↔ _
    rw [k x List.mem_cons_self y List.mem_cons_self, List.cons.injEq]
open Classical in
theorem same_ok : ∀ (n : Nat) (a b : PyData), nd n a = true → nd n b = true → f__law_same n [a, b] = .ok false (.bool (decide (a = b))) .none
  | 0, a, _, h, _ => by cases h
  | n + 1, a, b, ha, hb => by
    have ih := same_ok n
    show runF 4 2 false (t__law_same (f__law_same n)) [a, b] = _
    refine Eq.trans (run_eq rfl) ?_
    rw [show env0 4 false [a, b] = envS a b from rfl]
    have seq : ∀ {xs ys : List PyData} {w : List PyData → PyData}, (∀ zs, seqO (w zs) = some zs) → (∀ zs zs', w zs = w zs' ↔ zs = zs') → (decide (xs.length ≤ line) && xs.all (nd n)) = true → (decide (ys.length ≤ line) && ys.all (nd n)) = true → (∀ zs, lenD [w zs] = some (false, .int zs.length)) →
        (andM (bin2 eqD (callM lenD (opd1 (varM 0))) (callM lenD (opd1 (varM 1)))) (callM allD (opd1 (c__law_same_0 (f__law_same n))))) (envS (w xs) (w ys)) = .ok (.val (.bool (decide (w xs = w ys)))) (envS (w xs) (w ys)) := by
      intro xs ys w hw hi h1 h2 hlen
      rw [Bool.and_eq_true] at h1 h2
      have l1 := of_decide_eq_true h1.1
      have k1 := List.all_eq_true.mp h1.2
      have k2 := List.all_eq_true.mp h2.2
      have hc := same_comp (F := f__law_same n) (hw xs) (hw ys) l1 (fun x y => decide (x = y)) fun x hx y hy => ih x y (k1 x hx) (k2 y hy)
      by_cases e : xs.length = ys.length
      · have q := zip_all (h := fun x y => decide (x = y)) e fun x _ y _ => decide_eq_true_iff
        have e' : ((xs.length : Int) = (ys.length : Int)) := by omega
        unfold envS at hc ⊢
        simp only [bd_ok, bd_ex, bd_bad, q_pure, q_optS, q_optN, sq_nx, sq_rt, sq_ex, sq_bad, q_seq, q_pass, of_ok, of_ex, of_bad, q_expr, q_if, q_ret, ret_val, ret_new, q_raise, q_var, sv_pers, sv_own, sv_bor, q_con, q_datV, q_datN, q_datS, sd_some, q_optRS, q_optRN, res_t, res_f, q_bin2, q_un1, q_persM, pr_val, pr_new, pr_slot, sp_own, q_mvM, mv_val, mv_new, mv_slot, sm_own, q_set, q_free, fr_none, fr_pers, fr_own, put_val, put_new, q_not, q_andB, q_orB, q_boolM, br_bool, q_andM, q_orM, q_notM, q_ifM, q_chn2, ch_bool, q_cons, q_nil, q_tup, q_lst, q_opd1, q_opd2, q_callM, q_callF, fr_ok, fr_ex, fr_bad, q_callB, ld_own, ld_bor, fb_ok, fb_ex, q_has, has_some, os_ok, ns_some, ms_own, ms_bor, q_st, mt_some, mu_own, mu_bor, q_mutV, q_ownT, ow_own, ow_bor, q_m1, q_m0, q_tgN, q_tg, q_tgR, to_some, tgT_tup, tgT_lst, tgC_cons, tgN_nil, q_for, q_map1, q_walk, so_list, so_tup, wo_list, wo_tup, e_add, e_sub, e_neg, e_lt, e_gt, e_le, e_ge, e_eq, e_ne, e_isN, e_isnN, e_isB, e_isnB, pk_some, e_ixL, e_ixT, e_lastL, e_lastT, e_part, e_intR, e_noPart, e_slice, e_slL, e_slT, q_par, q_par1, q_par2, po_val, po_new, nx_some, q_getM, q_getE, gate_some, go_int, dat_val, q_pop2, ow_dict, fin_nx, fin_rt, fin_ex, bor_t, bor_f, e_lenL, e_lenT, e_abs, e_min, e_max, e_int, e_intB, e_tupL, e_tupT, e_lstL, e_lstT, e_all, e_any, e_sum, e_isa, e_set0, e_set2, Int.reduceLE, Int.reduceLT, Int.reduceToNat, Int.reduceNeg, Int.le_refl, Int.toNat_zero, List.getElem?_cons_zero, List.getElem?_cons_succ, List.set_cons_zero, List.set_cons_succ, Option.bind_some, Bool.false_eq_true, if_true, if_false, ite_true, ite_false, reduceIte, decide_true, decide_false, Bool.not_true, Bool.not_false, List.map_cons, List.map_nil, List.any_cons, List.any_nil, Bool.or_false, Bool.or_true, Bool.true_or, Bool.false_or, Bool.and_true, Bool.true_and, Bool.false_and, Bool.and_false, hlen, e', hc]
        congr 3
        rw [Bool.eq_iff_iff, q, decide_eq_true_iff, hi]
      · have e' : ¬ ((xs.length : Int) = (ys.length : Int)) := by omega
        have ne : ¬ (w xs = w ys) := fun z => e (by rw [(hi _ _).mp z])
        unfold envS
        simp only [bd_ok, bd_ex, bd_bad, q_pure, q_optS, q_optN, sq_nx, sq_rt, sq_ex, sq_bad, q_seq, q_pass, of_ok, of_ex, of_bad, q_expr, q_if, q_ret, ret_val, ret_new, q_raise, q_var, sv_pers, sv_own, sv_bor, q_con, q_datV, q_datN, q_datS, sd_some, q_optRS, q_optRN, res_t, res_f, q_bin2, q_un1, q_persM, pr_val, pr_new, pr_slot, sp_own, q_mvM, mv_val, mv_new, mv_slot, sm_own, q_set, q_free, fr_none, fr_pers, fr_own, put_val, put_new, q_not, q_andB, q_orB, q_boolM, br_bool, q_andM, q_orM, q_notM, q_ifM, q_chn2, ch_bool, q_cons, q_nil, q_tup, q_lst, q_opd1, q_opd2, q_callM, q_callF, fr_ok, fr_ex, fr_bad, q_callB, ld_own, ld_bor, fb_ok, fb_ex, q_has, has_some, os_ok, ns_some, ms_own, ms_bor, q_st, mt_some, mu_own, mu_bor, q_mutV, q_ownT, ow_own, ow_bor, q_m1, q_m0, q_tgN, q_tg, q_tgR, to_some, tgT_tup, tgT_lst, tgC_cons, tgN_nil, q_for, q_map1, q_walk, so_list, so_tup, wo_list, wo_tup, e_add, e_sub, e_neg, e_lt, e_gt, e_le, e_ge, e_eq, e_ne, e_isN, e_isnN, e_isB, e_isnB, pk_some, e_ixL, e_ixT, e_lastL, e_lastT, e_part, e_intR, e_noPart, e_slice, e_slL, e_slT, q_par, q_par1, q_par2, po_val, po_new, nx_some, q_getM, q_getE, gate_some, go_int, dat_val, q_pop2, ow_dict, fin_nx, fin_rt, fin_ex, bor_t, bor_f, e_lenL, e_lenT, e_abs, e_min, e_max, e_int, e_intB, e_tupL, e_tupT, e_lstL, e_lstT, e_all, e_any, e_sum, e_isa, e_set0, e_set2, Int.reduceLE, Int.reduceLT, Int.reduceToNat, Int.reduceNeg, Int.le_refl, Int.toNat_zero, List.getElem?_cons_zero, List.getElem?_cons_succ, List.set_cons_zero, List.set_cons_succ, Option.bind_some, Bool.false_eq_true, if_true, if_false, ite_true, ite_false, reduceIte, decide_true, decide_false, Bool.not_true, Bool.not_false, List.map_cons, List.map_nil, List.any_cons, List.any_nil, Bool.or_false, Bool.or_true, Bool.true_or, Bool.false_or, Bool.and_true, Bool.true_and, Bool.false_and, Bool.and_false, hlen, e', ne]
    unfold t__law_same
    generalize hA : andM (bin2 eqD (callM lenD (opd1 (varM 0))) (callM lenD (opd1 (varM 1)))) (callM allD (opd1 (c__law_same_0 (f__law_same n)))) = A at seq ⊢
    cases a <;> cases b <;> first | (exfalso; exact Bool.noConfusion ha) | (exfalso; exact Bool.noConfusion hb) | skip
    case list.list xs ys =>
      have q := seq (w := .list) (fun _ => rfl) (fun _ _ => ⟨fun z => by cases z; rfl, fun z => by rw [z]⟩) ha hb (fun _ => rfl)
      unfold envS at q ⊢
      simp only [bd_ok, bd_ex, bd_bad, q_pure, q_optS, q_optN, sq_nx, sq_rt, sq_ex, sq_bad, q_seq, q_pass, of_ok, of_ex, of_bad, q_expr, q_if, q_ret, ret_val, ret_new, q_raise, q_var, sv_pers, sv_own, sv_bor, q_con, q_datV, q_datN, q_datS, sd_some, q_optRS, q_optRN, res_t, res_f, q_bin2, q_un1, q_persM, pr_val, pr_new, pr_slot, sp_own, q_mvM, mv_val, mv_new, mv_slot, sm_own, q_set, q_free, fr_none, fr_pers, fr_own, put_val, put_new, q_not, q_andB, q_orB, q_boolM, br_bool, q_andM, q_orM, q_notM, q_ifM, q_chn2, ch_bool, q_cons, q_nil, q_tup, q_lst, q_opd1, q_opd2, q_callM, q_callF, fr_ok, fr_ex, fr_bad, q_callB, ld_own, ld_bor, fb_ok, fb_ex, q_has, has_some, os_ok, ns_some, ms_own, ms_bor, q_st, mt_some, mu_own, mu_bor, q_mutV, q_ownT, ow_own, ow_bor, q_m1, q_m0, q_tgN, q_tg, q_tgR, to_some, tgT_tup, tgT_lst, tgC_cons, tgN_nil, q_for, q_map1, q_walk, so_list, so_tup, wo_list, wo_tup, e_add, e_sub, e_neg, e_lt, e_gt, e_le, e_ge, e_eq, e_ne, e_isN, e_isnN, e_isB, e_isnB, pk_some, e_ixL, e_ixT, e_lastL, e_lastT, e_part, e_intR, e_noPart, e_slice, e_slL, e_slT, q_par, q_par1, q_par2, po_val, po_new, nx_some, q_getM, q_getE, gate_some, go_int, dat_val, q_pop2, ow_dict, fin_nx, fin_rt, fin_ex, bor_t, bor_f, e_lenL, e_lenT, e_abs, e_min, e_max, e_int, e_intB, e_tupL, e_tupT, e_lstL, e_lstT, e_all, e_any, e_sum, e_isa, e_set0, e_set2, Int.reduceLE, Int.reduceLT, Int.reduceToNat, Int.reduceNeg, Int.le_refl, Int.toNat_zero, List.getElem?_cons_zero, List.getElem?_cons_succ, List.set_cons_zero, List.set_cons_succ, Option.bind_some, Bool.false_eq_true, if_true, if_false, ite_true, ite_false, reduceIte, decide_true, decide_false, Bool.not_true, Bool.not_false, List.map_cons, List.map_nil, List.any_cons, List.any_nil, Bool.or_false, Bool.or_true, Bool.true_or, Bool.false_or, Bool.and_true, Bool.true_and, Bool.false_and, Bool.and_false, Ty.is, Ty.isK, dk, q]
    case tuple.tuple xs ys =>
      have q := seq (w := .tuple) (fun _ => rfl) (fun _ _ => ⟨fun z => by cases z; rfl, fun z => by rw [z]⟩) ha hb (fun _ => rfl)
      unfold envS at q ⊢
      simp only [bd_ok, bd_ex, bd_bad, q_pure, q_optS, q_optN, sq_nx, sq_rt, sq_ex, sq_bad, q_seq, q_pass, of_ok, of_ex, of_bad, q_expr, q_if, q_ret, ret_val, ret_new, q_raise, q_var, sv_pers, sv_own, sv_bor, q_con, q_datV, q_datN, q_datS, sd_some, q_optRS, q_optRN, res_t, res_f, q_bin2, q_un1, q_persM, pr_val, pr_new, pr_slot, sp_own, q_mvM, mv_val, mv_new, mv_slot, sm_own, q_set, q_free, fr_none, fr_pers, fr_own, put_val, put_new, q_not, q_andB, q_orB, q_boolM, br_bool, q_andM, q_orM, q_notM, q_ifM, q_chn2, ch_bool, q_cons, q_nil, q_tup, q_lst, q_opd1, q_opd2, q_callM, q_callF, fr_ok, fr_ex, fr_bad, q_callB, ld_own, ld_bor, fb_ok, fb_ex, q_has, has_some, os_ok, ns_some, ms_own, ms_bor, q_st, mt_some, mu_own, mu_bor, q_mutV, q_ownT, ow_own, ow_bor, q_m1, q_m0, q_tgN, q_tg, q_tgR, to_some, tgT_tup, tgT_lst, tgC_cons, tgN_nil, q_for, q_map1, q_walk, so_list, so_tup, wo_list, wo_tup, e_add, e_sub, e_neg, e_lt, e_gt, e_le, e_ge, e_eq, e_ne, e_isN, e_isnN, e_isB, e_isnB, pk_some, e_ixL, e_ixT, e_lastL, e_lastT, e_part, e_intR, e_noPart, e_slice, e_slL, e_slT, q_par, q_par1, q_par2, po_val, po_new, nx_some, q_getM, q_getE, gate_some, go_int, dat_val, q_pop2, ow_dict, fin_nx, fin_rt, fin_ex, bor_t, bor_f, e_lenL, e_lenT, e_abs, e_min, e_max, e_int, e_intB, e_tupL, e_tupT, e_lstL, e_lstT, e_all, e_any, e_sum, e_isa, e_set0, e_set2, Int.reduceLE, Int.reduceLT, Int.reduceToNat, Int.reduceNeg, Int.le_refl, Int.toNat_zero, List.getElem?_cons_zero, List.getElem?_cons_succ, List.set_cons_zero, List.set_cons_succ, Option.bind_some, Bool.false_eq_true, if_true, if_false, ite_true, ite_false, reduceIte, decide_true, decide_false, Bool.not_true, Bool.not_false, List.map_cons, List.map_nil, List.any_cons, List.any_nil, Bool.or_false, Bool.or_true, Bool.true_or, Bool.false_or, Bool.and_true, Bool.true_and, Bool.false_and, Bool.and_false, Ty.is, Ty.isK, dk, q]
    all_goals (unfold envS; simp only [bd_ok, bd_ex, bd_bad, q_pure, q_optS, q_optN, sq_nx, sq_rt, sq_ex, sq_bad, q_seq, q_pass, of_ok, of_ex, of_bad, q_expr, q_if, q_ret, ret_val, ret_new, q_raise, q_var, sv_pers, sv_own, sv_bor, q_con, q_datV, q_datN, q_datS, sd_some, q_optRS, q_optRN, res_t, res_f, q_bin2, q_un1, q_persM, pr_val, pr_new, pr_slot, sp_own, q_mvM, mv_val, mv_new, mv_slot, sm_own, q_set, q_free, fr_none, fr_pers, fr_own, put_val, put_new, q_not, q_andB, q_orB, q_boolM, br_bool, q_andM, q_orM, q_notM, q_ifM, q_chn2, ch_bool, q_cons, q_nil, q_tup, q_lst, q_opd1, q_opd2, q_callM, q_callF, fr_ok, fr_ex, fr_bad, q_callB, ld_own, ld_bor, fb_ok, fb_ex, q_has, has_some, os_ok, ns_some, ms_own, ms_bor, q_st, mt_some, mu_own, mu_bor, q_mutV, q_ownT, ow_own, ow_bor, q_m1, q_m0, q_tgN, q_tg, q_tgR, to_some, tgT_tup, tgT_lst, tgC_cons, tgN_nil, q_for, q_map1, q_walk, so_list, so_tup, wo_list, wo_tup, e_add, e_sub, e_neg, e_lt, e_gt, e_le, e_ge, e_eq, e_ne, e_isN, e_isnN, e_isB, e_isnB, pk_some, e_ixL, e_ixT, e_lastL, e_lastT, e_part, e_intR, e_noPart, e_slice, e_slL, e_slT, q_par, q_par1, q_par2, po_val, po_new, nx_some, q_getM, q_getE, gate_some, go_int, dat_val, q_pop2, ow_dict, fin_nx, fin_rt, fin_ex, bor_t, bor_f, e_lenL, e_lenT, e_abs, e_min, e_max, e_int, e_intB, e_tupL, e_tupT, e_lstL, e_lstT, e_all, e_any, e_sum, e_isa, e_set0, e_set2, Int.reduceLE, Int.reduceLT, Int.reduceToNat, Int.reduceNeg, Int.le_refl, Int.toNat_zero, List.getElem?_cons_zero, List.getElem?_cons_succ, List.set_cons_zero, List.set_cons_succ, Option.bind_some, Bool.false_eq_true, if_true, if_false, ite_true, ite_false, reduceIte, decide_true, decide_false, Bool.not_true, Bool.not_false, List.map_cons, List.map_nil, List.any_cons, List.any_nil, Bool.or_false, Bool.or_true, Bool.true_or, Bool.false_or, Bool.and_true, Bool.true_and, Bool.false_and, Bool.and_false, Ty.is, Ty.isK, dk, notNone, e_eqB, e_eqStr]; try simp)
end LW

namespace LW
open PySem PySem.Spec PyProof.Rows L2 DL
def t_is_width : SM := (seqS (retS (callF f_is_within (consM (persM (varM 0)) (consM (persM (conM (.int 1))) (consM (persM (conM (.int 40))) nilM))))) passS)
def f_is_width : FSem := runF 1 1 false t_is_width
def ce_are_levers_0 : M D := persM (bin2 ltD (bin2 ixD (varM 3) (conM (.int 0))) (bin2 ixD (varM 4) (conM (.int 0))))
def c_are_levers_0 : M R := lcM (mapM1 (consM (persM (varM 0)) (consM (persM (sliceM (varM 0) (part (conM (.int 1))) noPart)) nilM)) zip2O) (tgT (tgCons (tgN 3) (tgCons (tgN 4) tgNil))) yesM ce_are_levers_0 [3, 4]
def ce_are_levers_1 : M D := persM (andM (callF f_is_within (consM (persM (varM 1)) (consM (persM (conM (.int 0))) (consM (persM (conM (.int 1000000))) nilM)))) (callF f_is_within (consM (persM (varM 2)) (consM (persM (conM (.int 1))) (consM (persM (conM (.int 40))) nilM)))))
def c_are_levers_1 : M R := lcM (walkM (varM 0)) (tgT (tgCons (tgN 1) (tgCons (tgN 2) tgNil))) yesM ce_are_levers_1 [1, 2]
def t_are_levers : SM := (seqS (ifS (orB (notB (boolM (callF f_are_rows (consM (persM (varM 0)) (consM (persM (conM (.int 2))) (consM (persM (conM (.int 20))) nilM)))))) (boolM (bin2 eqD (varM 0) (tupM nilM)))) (seqS (retS (conM (.bool false))) passS) passS) (seqS (ifS (notB (boolM (callM allD (opd1 c_are_levers_1)))) (seqS (retS (conM (.bool false))) passS) passS) (seqS (retS (andM (bin2 eqD (bin2 ixD (bin2 ixD (varM 0) (conM (.int 0))) (conM (.int 0))) (conM (.int 0))) (callM allD (opd1 c_are_levers_0)))) passS)))
def f_are_levers : FSem := runF 5 1 false t_are_levers
def t_is_drive : SM := (seqS (ifS (orB (notB (boolM (un1 (isaD [.tuple]) (varM 0)))) (orB (boolM (bin2 neD (callM lenD (opd1 (varM 0))) (conM (.int 3)))) (notB (boolM (callF f_is_within (consM (persM (bin2 ixD (varM 0) (conM (.int 0)))) (consM (persM (conM (.int 0))) (consM (persM (conM (.int 5))) nilM)))))))) (seqS (retS (conM (.bool false))) passS) passS) (seqS (retS (andM (callF f_is_within (consM (persM (bin2 ixD (varM 0) (conM (.int 1)))) (consM (persM (conM (.int 1))) (consM (persM (conM (.int 50))) nilM)))) (callF f_are_levers (consM (persM (bin2 ixD (varM 0) (conM (.int 2)))) nilM)))) passS))
def f_is_drive : FSem := runF 1 1 false t_is_drive
def t_look_at_drive : SM := (seqS (ifS (notB (boolM (callF f_is_drive (consM (persM (varM 0)) nilM)))) (seqS (raiseS "NoDrive") passS) passS) passS)
def f_look_at_drive : FSem := runF 1 1 false t_look_at_drive
def t_look_at_bar : SM := (seqS (exprS (callF f_look_at_drive (consM (persM (varM 0)) nilM))) (seqS (ifS (notB (boolM (callF f_is_width (consM (persM (varM 1)) nilM)))) (seqS (raiseS "NoDrive") passS) passS) passS))
def f_look_at_bar : FSem := runF 2 2 false t_look_at_bar
def lb_passed_by_0 : SM := (seqS (ifS (boolM (bin2 ltD (varM 9) (varM 1))) (seqS (setS 6 (bin2 addD (varM 6) (bin2 mulD (varM 10) (bin2 subD (callM min2D (opd2 (varM 11) (varM 1))) (varM 9))))) passS) passS) passS)
def l_passed_by_0 : SM := forS (mapM1 (consM (persM (varM 4)) (consM (persM (varM 7)) nilM)) zip2O) (tgT (tgCons (tgT (tgCons (tgN 9) (tgCons (tgN 10) tgNil))) (tgCons (tgN 11) tgNil))) lb_passed_by_0 [9, 10, 11]
def ce_passed_by_0 : M D := persM (bin2 ixD (varM 8) (conM (.int 0)))
def c_passed_by_0 : M R := lcM (walkM (sliceM (varM 4) (part (conM (.int 1))) noPart)) (tgN 8) yesM ce_passed_by_0 [8]
def t_passed_by : SM := (seqS (tgS (tgT (tgCons (tgN 2) (tgCons (tgN 3) (tgCons (tgN 4) tgNil)))) (varM 0)) (seqS (setS 5 (bin2 fdivD (varM 1) (varM 3))) (seqS (setS 6 (bin2 mulD (varM 2) (bin2 addD (bin2 mulD (varM 3) (bin2 fdivD (bin2 mulD (varM 5) (bin2 subD (varM 5) (conM (.int 1)))) (conM (.int 2)))) (bin2 mulD (bin2 modD (varM 1) (varM 3)) (varM 5))))) (seqS (setS 7 (bin2 addD c_passed_by_0 (lstM (consM (persM (varM 1)) nilM)))) (seqS l_passed_by_0 (seqS (retS (varM 6)) passS))))))
def f_passed_by : FSem := runF 12 2 false t_passed_by
def wt_tick_by_0 : M Bool := (boolM (bin2 gtD (bin2 subD (varM 2) (varM 3)) (conM (.int 1))))
def wb_tick_by_0 : SM := (seqS (setS 4 (bin2 fdivD (bin2 addD (varM 3) (varM 2)) (conM (.int 2)))) (seqS (ifS (boolM (bin2 leD (callF f_passed_by (consM (persM (varM 0)) (consM (persM (varM 4)) nilM))) (varM 1))) (seqS (setS 3 (varM 4)) passS) (seqS (setS 2 (varM 4)) passS)) passS))
def w_tick_by_0 : SM := whileS wt_tick_by_0 wb_tick_by_0
def wt_tick_by_1 : M Bool := (boolM (bin2 leD (callF f_passed_by (consM (persM (varM 0)) (consM (persM (varM 2)) nilM))) (varM 1)))
def wb_tick_by_1 : SM := (seqS (setS 2 (bin2 mulD (varM 2) (conM (.int 2)))) passS)
def w_tick_by_1 : SM := whileS wt_tick_by_1 wb_tick_by_1
def t_tick_by : SM := (seqS (setS 2 (conM (.int 1))) (seqS w_tick_by_1 (seqS (setS 3 (conM (.int 0))) (seqS w_tick_by_0 (seqS (retS (varM 3)) passS)))))
def f_tick_by : FSem := runF 5 2 false t_tick_by
def lb__law_drive_0 : SM := (seqS (exprS (m1M "list" 2 appD (tupM (consM (persM (varM 3)) (consM (persM (bin2 ixD (lstM (consM (persM (conM (.int 1))) (consM (persM (bin2 addD (conM (.int 1)) (callB 0 f__law_take (consM (persM (conM (.int 5))) nilM)))) (consM (persM (bin2 addD (conM (.int 1)) (callB 0 f__law_take (consM (persM (conM (.int 40))) nilM)))) nilM)))) (callB 0 f__law_take (consM (persM (conM (.int 3))) nilM)))) nilM))))) (seqS (setS 3 (bin2 addD (bin2 addD (varM 3) (conM (.int 1))) (callB 0 f__law_take (consM (persM (bin2 ixD (lstM (consM (persM (conM (.int 3))) (consM (persM (conM (.int 30))) nilM))) (callB 0 f__law_take (consM (persM (conM (.int 2))) nilM)))) nilM)))) passS))
def l__law_drive_0 : SM := forS (mapM1 (consM (persM (bin2 addD (conM (.int 1)) (bin2 ixD (lstM (consM (persM (conM (.int 0))) (consM (persM (callB 0 f__law_take (consM (persM (conM (.int 5))) nilM))) nilM))) (callB 0 f__law_take (consM (persM (conM (.int 2))) nilM))))) nilM) range1O) (tgN 4) lb__law_drive_0 [4]
def t__law_drive : SM := (seqS (setS 1 (bin2 ixD (lstM (consM (persM (conM (.int 0))) (consM (persM (callB 0 f__law_take (consM (persM (conM (.int 3))) nilM))) (consM (persM (callB 0 f__law_take (consM (persM (conM (.int 6))) nilM))) nilM)))) (callB 0 f__law_take (consM (persM (conM (.int 3))) nilM)))) (seqS (setS 2 (lstM nilM)) (seqS (setS 3 (conM (.int 0))) (seqS l__law_drive_0 (seqS (retS (tupM (consM (persM (varM 1)) (consM (persM (bin2 addD (conM (.int 1)) (callB 0 f__law_take (consM (persM (bin2 ixD (lstM (consM (persM (conM (.int 3))) (consM (persM (conM (.int 10))) (consM (persM (conM (.int 50))) nilM)))) (callB 0 f__law_take (consM (persM (conM (.int 3))) nilM)))) nilM)))) (consM (persM (callM tupleD (opd1 (varM 2)))) nilM))))) passS)))))
def f__law_drive : FSem := runF 5 1 true t__law_drive
end LW

namespace LW
open PySem PySem.Spec PyProof.Rows L2 DL
/-! ### what is a drive -/
def rowD (p : Int × Int) : PyData := .tuple [.int p.1, .int p.2]
def levD (ls : List (Int × Int)) : PyData := .tuple (ls.map rowD)
def drvD (g t : Int) (ls : List (Int × Int)) : PyData := .tuple [.int g, .int t, levD ls]
theorem lev_isa (ls : List (Int × Int)) : Ty.tuple.is (levD ls) = true := rfl
theorem lev_len (ls : List (Int × Int)) : lenD [levD ls] = some (false, .int (ls.length : Nat)) := by
  show some (false, PyData.int ((ls.map rowD).length : Nat)) = _
  rw [List.length_map]
theorem lev_seq (ls : List (Int × Int)) : seqO (levD ls) = some (ls.map rowD) := rfl
theorem lev_walk (ls : List (Int × Int)) : walkO (levD ls) = some (ls.map rowD) := rfl
theorem lev_rows {ls : List (Int × Int)} (hl : ls.length ≤ 20) : f_are_rows [levD ls, .int 2, .int 20] = .ok false (.bool true) .none := are_rows_ok (by rw [List.length_map]; omega) (line20 (by rw [List.length_map]; omega)) fun d hd => by
  obtain ⟨p, _, rfl⟩ := List.mem_map.mp hd
  exact ⟨_, rfl, rfl⟩
theorem row_isa (p : Int × Int) : Ty.tuple.is (rowD p) = true := rfl
theorem row_len (p : Int × Int) : lenD [rowD p] = some (false, .int 2) := rfl
theorem row_0 (p : Int × Int) : ixD (rowD p) (.int 0) = some (false, .int p.1) := rfl
theorem row_1 (p : Int × Int) : ixD (rowD p) (.int 1) = some (false, .int p.2) := rfl
/-- levers as they may be -/
structure Lv (ls : List (Int × Int)) : Prop where
  len : ls.length ≤ 20
  hd : ∃ s r, ls = (0, s) :: r
  in_ : ∀ p ∈ ls, 0 ≤ p.1 ∧ p.1 ≤ 1000000 ∧ 1 ≤ p.2 ∧ p.2 ≤ 40
  up : ls.Pairwise fun p q => p.1 < q.1
theorem lev_sm {ls : List (Int × Int)} : sm (levD ls) = true := by
  refine Pl.sm (n := 2) (pl_tup fun d hd => ?_) (by decide)
  obtain ⟨p, _, rfl⟩ := List.mem_map.mp hd
  exact pl_tup (pl_cons (pl_int _) (pl_cons (pl_int _) pl_nil))
theorem lev_ne {ls : List (Int × Int)} (h : Lv ls) : eqD (levD ls) (.tuple []) = some (false, .bool false) := by
  obtain ⟨s, r, rfl⟩ := h.hd
  rw [e_eqG lev_sm (by decide)]
  rfl
theorem zip_up : ∀ {ls : List (Int × Int)}, (ls.Pairwise fun p q => p.1 < q.1) → ∀ d ∈ List.zipWith (fun x y => PyData.tuple [x, y]) (ls.map rowD) ((ls.map rowD).drop 1), ∃ p q : Int × Int, d = .tuple [rowD p, rowD q] ∧ p.1 < q.1
  | [], _, d, h => by cases h
  | [p], _, d, h => by cases h
  | p :: q :: r, up, d, h => by
    cases up with
    | cons a t =>
      rcases List.mem_cons.mp h with rfl | h
      · exact ⟨p, q, rfl, a q List.mem_cons_self⟩
      · exact zip_up t d h
theorem are_levers_ok {ls : List (Int × Int)} (h : Lv ls) : f_are_levers [levD ls] = .ok false (.bool true) .none := by
  refine Eq.trans (run_eq (t := t_are_levers) (n := 5) (np := 1) (bor := false) rfl) ?_
  rw [show env0 5 false [levD ls] = [some (.pers, levD ls), none, none, none, none] from rfl]
  have h1 : c_are_levers_1 [some (.pers, levD ls), none, none, none, none] = .ok (.new (.list ((ls.map rowD).map fun _ => .bool true))) [some (.pers, levD ls), none, none, none, none] := by
    refine lcm_map (fun _ => .bool true) (by simp only [bd_ok, bd_ex, bd_bad, q_pure, q_optS, q_optN, sq_nx, sq_rt, sq_ex, sq_bad, q_seq, q_pass, of_ok, of_ex, of_bad, q_expr, q_if, q_ret, ret_val, ret_new, q_raise, q_var, sv_pers, sv_own, sv_bor, q_con, q_datV, q_datN, q_datS, sd_some, q_optRS, q_optRN, res_t, res_f, q_bin2, q_un1, q_persM, pr_val, pr_new, pr_slot, sp_own, q_mvM, mv_val, mv_new, mv_slot, sm_own, q_set, q_free, fr_none, fr_pers, fr_own, put_val, put_new, q_not, q_andB, q_orB, q_boolM, br_bool, q_andM, q_orM, q_notM, q_ifM, q_chn2, ch_bool, q_cons, q_nil, q_tup, q_lst, q_opd1, q_opd2, q_callM, q_callF, fr_ok, fr_ex, fr_bad, q_callB, ld_own, ld_bor, fb_ok, fb_ex, q_has, has_some, os_ok, ns_some, ms_own, ms_bor, q_st, mt_some, mu_own, mu_bor, q_mutV, q_ownT, ow_own, ow_bor, q_m1, q_m0, q_tgN, q_tg, q_tgR, to_some, tgT_tup, tgT_lst, tgC_cons, tgN_nil, q_for, q_map1, q_walk, so_list, so_tup, wo_list, wo_tup, e_add, e_sub, e_neg, e_lt, e_gt, e_le, e_ge, e_eq, e_ne, e_isN, e_isnN, e_isB, e_isnB, pk_some, e_ixL, e_ixT, e_lastL, e_lastT, e_part, e_intR, e_noPart, e_slice, e_slL, e_slT, q_par, q_par1, q_par2, po_val, po_new, nx_some, q_getM, q_getE, gate_some, go_int, dat_val, q_pop2, ow_dict, fin_nx, fin_rt, fin_ex, bor_t, bor_f, e_lenL, e_lenT, e_abs, e_min, e_max, e_int, e_intB, e_tupL, e_tupT, e_lstL, e_lstT, e_all, e_any, e_sum, e_isa, e_set0, e_set2, Int.reduceLE, Int.reduceLT, Int.reduceToNat, Int.reduceNeg, Int.le_refl, Int.toNat_zero, List.getElem?_cons_zero, List.getElem?_cons_succ, List.set_cons_zero, List.set_cons_succ, Option.bind_some, Bool.false_eq_true, if_true, if_false, ite_true, ite_false, reduceIte, decide_true, decide_false, Bool.not_true, Bool.not_false, List.map_cons, List.map_nil, List.any_cons, List.any_nil, Bool.or_false, Bool.or_true, Bool.true_or, Bool.false_or, Bool.and_true, Bool.true_and, Bool.false_and, Bool.and_false, lev_walk]) rfl (line20 (by rw [List.length_map]; have := h.len; omega)) fun d hd => ?_
    obtain ⟨p, hp, rfl⟩ := List.mem_map.mp hd
    obtain ⟨a1, a2, a3, a4⟩ := h.in_ p hp
    refine ⟨[some (.pers, levD ls), some (.pers, .int p.1), some (.pers, .int p.2), none, none], [some (.pers, levD ls), some (.pers, .int p.1), some (.pers, .int p.2), none, none], rfl, ?_, rfl⟩
    unfold ce_are_levers_1
    simp only [bd_ok, bd_ex, bd_bad, q_pure, q_optS, q_optN, sq_nx, sq_rt, sq_ex, sq_bad, q_seq, q_pass, of_ok, of_ex, of_bad, q_expr, q_if, q_ret, ret_val, ret_new, q_raise, q_var, sv_pers, sv_own, sv_bor, q_con, q_datV, q_datN, q_datS, sd_some, q_optRS, q_optRN, res_t, res_f, q_bin2, q_un1, q_persM, pr_val, pr_new, pr_slot, sp_own, q_mvM, mv_val, mv_new, mv_slot, sm_own, q_set, q_free, fr_none, fr_pers, fr_own, put_val, put_new, q_not, q_andB, q_orB, q_boolM, br_bool, q_andM, q_orM, q_notM, q_ifM, q_chn2, ch_bool, q_cons, q_nil, q_tup, q_lst, q_opd1, q_opd2, q_callM, q_callF, fr_ok, fr_ex, fr_bad, q_callB, ld_own, ld_bor, fb_ok, fb_ex, q_has, has_some, os_ok, ns_some, ms_own, ms_bor, q_st, mt_some, mu_own, mu_bor, q_mutV, q_ownT, ow_own, ow_bor, q_m1, q_m0, q_tgN, q_tg, q_tgR, to_some, tgT_tup, tgT_lst, tgC_cons, tgN_nil, q_for, q_map1, q_walk, so_list, so_tup, wo_list, wo_tup, e_add, e_sub, e_neg, e_lt, e_gt, e_le, e_ge, e_eq, e_ne, e_isN, e_isnN, e_isB, e_isnB, pk_some, e_ixL, e_ixT, e_lastL, e_lastT, e_part, e_intR, e_noPart, e_slice, e_slL, e_slT, q_par, q_par1, q_par2, po_val, po_new, nx_some, q_getM, q_getE, gate_some, go_int, dat_val, q_pop2, ow_dict, fin_nx, fin_rt, fin_ex, bor_t, bor_f, e_lenL, e_lenT, e_abs, e_min, e_max, e_int, e_intB, e_tupL, e_tupT, e_lstL, e_lstT, e_all, e_any, e_sum, e_isa, e_set0, e_set2, Int.reduceLE, Int.reduceLT, Int.reduceToNat, Int.reduceNeg, Int.le_refl, Int.toNat_zero, List.getElem?_cons_zero, List.getElem?_cons_succ, List.set_cons_zero, List.set_cons_succ, Option.bind_some, Bool.false_eq_true, if_true, if_false, ite_true, ite_false, reduceIte, decide_true, decide_false, Bool.not_true, Bool.not_false, List.map_cons, List.map_nil, List.any_cons, List.any_nil, Bool.or_false, Bool.or_true, Bool.true_or, Bool.false_or, Bool.and_true, Bool.true_and, Bool.false_and, Bool.and_false, within_true a1 a2, within_true a3 a4]
  have h0 : c_are_levers_0 [some (.pers, levD ls), none, none, none, none] = .ok (.new (.list ((List.zipWith (fun x y => PyData.tuple [x, y]) (ls.map rowD) ((ls.map rowD).drop 1)).map fun _ => .bool true))) [some (.pers, levD ls), none, none, none, none] := by
    refine lcm_map (fun _ => .bool true) ?_ rfl (line20 (by rw [List.length_zipWith, List.length_map]; have := h.len; omega)) fun d hd => ?_
    · simp only [bd_ok, bd_ex, bd_bad, q_pure, q_optS, q_optN, sq_nx, sq_rt, sq_ex, sq_bad, q_seq, q_pass, of_ok, of_ex, of_bad, q_expr, q_if, q_ret, ret_val, ret_new, q_raise, q_var, sv_pers, sv_own, sv_bor, q_con, q_datV, q_datN, q_datS, sd_some, q_optRS, q_optRN, res_t, res_f, q_bin2, q_un1, q_persM, pr_val, pr_new, pr_slot, sp_own, q_mvM, mv_val, mv_new, mv_slot, sm_own, q_set, q_free, fr_none, fr_pers, fr_own, put_val, put_new, q_not, q_andB, q_orB, q_boolM, br_bool, q_andM, q_orM, q_notM, q_ifM, q_chn2, ch_bool, q_cons, q_nil, q_tup, q_lst, q_opd1, q_opd2, q_callM, q_callF, fr_ok, fr_ex, fr_bad, q_callB, ld_own, ld_bor, fb_ok, fb_ex, q_has, has_some, os_ok, ns_some, ms_own, ms_bor, q_st, mt_some, mu_own, mu_bor, q_mutV, q_ownT, ow_own, ow_bor, q_m1, q_m0, q_tgN, q_tg, q_tgR, to_some, tgT_tup, tgT_lst, tgC_cons, tgN_nil, q_for, q_map1, q_walk, so_list, so_tup, wo_list, wo_tup, e_add, e_sub, e_neg, e_lt, e_gt, e_le, e_ge, e_eq, e_ne, e_isN, e_isnN, e_isB, e_isnB, pk_some, e_ixL, e_ixT, e_lastL, e_lastT, e_part, e_intR, e_noPart, e_slice, e_slL, e_slT, q_par, q_par1, q_par2, po_val, po_new, nx_some, q_getM, q_getE, gate_some, go_int, dat_val, q_pop2, ow_dict, fin_nx, fin_rt, fin_ex, bor_t, bor_f, e_lenL, e_lenT, e_abs, e_min, e_max, e_int, e_intB, e_tupL, e_tupT, e_lstL, e_lstT, e_all, e_any, e_sum, e_isa, e_set0, e_set2, Int.reduceLE, Int.reduceLT, Int.reduceToNat, Int.reduceNeg, Int.le_refl, Int.toNat_zero, List.getElem?_cons_zero, List.getElem?_cons_succ, List.set_cons_zero, List.set_cons_succ, Option.bind_some, Bool.false_eq_true, if_true, if_false, ite_true, ite_false, reduceIte, decide_true, decide_false, Bool.not_true, Bool.not_false, List.map_cons, List.map_nil, List.any_cons, List.any_nil, Bool.or_false, Bool.or_true, Bool.true_or, Bool.false_or, Bool.and_true, Bool.true_and, Bool.false_and, Bool.and_false, show ∀ l h, sliceD (levD ls) l h = some (false, .tuple (cutD (ls.map rowD) l h)) from fun _ _ => rfl, cut_from, e_zip2 (lev_seq ls) (so_tup)]
    · obtain ⟨p, q, rfl, hpq⟩ := zip_up h.up d hd
      refine ⟨[some (.pers, levD ls), none, none, some (.pers, rowD p), some (.pers, rowD q)], [some (.pers, levD ls), none, none, some (.pers, rowD p), some (.pers, rowD q)], rfl, ?_, rfl⟩
      unfold ce_are_levers_0
      simp only [bd_ok, bd_ex, bd_bad, q_pure, q_optS, q_optN, sq_nx, sq_rt, sq_ex, sq_bad, q_seq, q_pass, of_ok, of_ex, of_bad, q_expr, q_if, q_ret, ret_val, ret_new, q_raise, q_var, sv_pers, sv_own, sv_bor, q_con, q_datV, q_datN, q_datS, sd_some, q_optRS, q_optRN, res_t, res_f, q_bin2, q_un1, q_persM, pr_val, pr_new, pr_slot, sp_own, q_mvM, mv_val, mv_new, mv_slot, sm_own, q_set, q_free, fr_none, fr_pers, fr_own, put_val, put_new, q_not, q_andB, q_orB, q_boolM, br_bool, q_andM, q_orM, q_notM, q_ifM, q_chn2, ch_bool, q_cons, q_nil, q_tup, q_lst, q_opd1, q_opd2, q_callM, q_callF, fr_ok, fr_ex, fr_bad, q_callB, ld_own, ld_bor, fb_ok, fb_ex, q_has, has_some, os_ok, ns_some, ms_own, ms_bor, q_st, mt_some, mu_own, mu_bor, q_mutV, q_ownT, ow_own, ow_bor, q_m1, q_m0, q_tgN, q_tg, q_tgR, to_some, tgT_tup, tgT_lst, tgC_cons, tgN_nil, q_for, q_map1, q_walk, so_list, so_tup, wo_list, wo_tup, e_add, e_sub, e_neg, e_lt, e_gt, e_le, e_ge, e_eq, e_ne, e_isN, e_isnN, e_isB, e_isnB, pk_some, e_ixL, e_ixT, e_lastL, e_lastT, e_part, e_intR, e_noPart, e_slice, e_slL, e_slT, q_par, q_par1, q_par2, po_val, po_new, nx_some, q_getM, q_getE, gate_some, go_int, dat_val, q_pop2, ow_dict, fin_nx, fin_rt, fin_ex, bor_t, bor_f, e_lenL, e_lenT, e_abs, e_min, e_max, e_int, e_intB, e_tupL, e_tupT, e_lstL, e_lstT, e_all, e_any, e_sum, e_isa, e_set0, e_set2, Int.reduceLE, Int.reduceLT, Int.reduceToNat, Int.reduceNeg, Int.le_refl, Int.toNat_zero, List.getElem?_cons_zero, List.getElem?_cons_succ, List.set_cons_zero, List.set_cons_succ, Option.bind_some, Bool.false_eq_true, if_true, if_false, ite_true, ite_false, reduceIte, decide_true, decide_false, Bool.not_true, Bool.not_false, List.map_cons, List.map_nil, List.any_cons, List.any_nil, Bool.or_false, Bool.or_true, Bool.true_or, Bool.false_or, Bool.and_true, Bool.true_and, Bool.false_and, Bool.and_false, row_0, hpq]
  obtain ⟨s, r, e⟩ := h.hd
  have e0 : ixD (levD ls) (.int 0) = some (false, rowD (0, s)) := by
    rw [e]; exact e_ixT (by decide)
  unfold t_are_levers
  simp only [bd_ok, bd_ex, bd_bad, q_pure, q_optS, q_optN, sq_nx, sq_rt, sq_ex, sq_bad, q_seq, q_pass, of_ok, of_ex, of_bad, q_expr, q_if, q_ret, ret_val, ret_new, q_raise, q_var, sv_pers, sv_own, sv_bor, q_con, q_datV, q_datN, q_datS, sd_some, q_optRS, q_optRN, res_t, res_f, q_bin2, q_un1, q_persM, pr_val, pr_new, pr_slot, sp_own, q_mvM, mv_val, mv_new, mv_slot, sm_own, q_set, q_free, fr_none, fr_pers, fr_own, put_val, put_new, q_not, q_andB, q_orB, q_boolM, br_bool, q_andM, q_orM, q_notM, q_ifM, q_chn2, ch_bool, q_cons, q_nil, q_tup, q_lst, q_opd1, q_opd2, q_callM, q_callF, fr_ok, fr_ex, fr_bad, q_callB, ld_own, ld_bor, fb_ok, fb_ex, q_has, has_some, os_ok, ns_some, ms_own, ms_bor, q_st, mt_some, mu_own, mu_bor, q_mutV, q_ownT, ow_own, ow_bor, q_m1, q_m0, q_tgN, q_tg, q_tgR, to_some, tgT_tup, tgT_lst, tgC_cons, tgN_nil, q_for, q_map1, q_walk, so_list, so_tup, wo_list, wo_tup, e_add, e_sub, e_neg, e_lt, e_gt, e_le, e_ge, e_eq, e_ne, e_isN, e_isnN, e_isB, e_isnB, pk_some, e_ixL, e_ixT, e_lastL, e_lastT, e_part, e_intR, e_noPart, e_slice, e_slL, e_slT, q_par, q_par1, q_par2, po_val, po_new, nx_some, q_getM, q_getE, gate_some, go_int, dat_val, q_pop2, ow_dict, fin_nx, fin_rt, fin_ex, bor_t, bor_f, e_lenL, e_lenT, e_abs, e_min, e_max, e_int, e_intB, e_tupL, e_tupT, e_lstL, e_lstT, e_all, e_any, e_sum, e_isa, e_set0, e_set2, Int.reduceLE, Int.reduceLT, Int.reduceToNat, Int.reduceNeg, Int.le_refl, Int.toNat_zero, List.getElem?_cons_zero, List.getElem?_cons_succ, List.set_cons_zero, List.set_cons_succ, Option.bind_some, Bool.false_eq_true, if_true, if_false, ite_true, ite_false, reduceIte, decide_true, decide_false, Bool.not_true, Bool.not_false, List.map_cons, List.map_nil, List.any_cons, List.any_nil, Bool.or_false, Bool.or_true, Bool.true_or, Bool.false_or, Bool.and_true, Bool.true_and, Bool.false_and, Bool.and_false, h1, h0, e_allT, lev_rows h.len, lev_ne h, e0, row_0]
theorem is_drive_ok {g t : Int} {ls : List (Int × Int)} (hg : 0 ≤ g) (hg5 : g ≤ 5) (ht : 1 ≤ t) (ht5 : t ≤ 50) (h : Lv ls) : f_is_drive [drvD g t ls] = .ok false (.bool true) .none := by
  refine Eq.trans (run_eq (t := t_is_drive) (n := 1) (np := 1) (bor := false) rfl) ?_
  rw [show env0 1 false [drvD g t ls] = [some (.pers, drvD g t ls)] from rfl]
  unfold t_is_drive
  simp only [bd_ok, bd_ex, bd_bad, q_pure, q_optS, q_optN, sq_nx, sq_rt, sq_ex, sq_bad, q_seq, q_pass, of_ok, of_ex, of_bad, q_expr, q_if, q_ret, ret_val, ret_new, q_raise, q_var, sv_pers, sv_own, sv_bor, q_con, q_datV, q_datN, q_datS, sd_some, q_optRS, q_optRN, res_t, res_f, q_bin2, q_un1, q_persM, pr_val, pr_new, pr_slot, sp_own, q_mvM, mv_val, mv_new, mv_slot, sm_own, q_set, q_free, fr_none, fr_pers, fr_own, put_val, put_new, q_not, q_andB, q_orB, q_boolM, br_bool, q_andM, q_orM, q_notM, q_ifM, q_chn2, ch_bool, q_cons, q_nil, q_tup, q_lst, q_opd1, q_opd2, q_callM, q_callF, fr_ok, fr_ex, fr_bad, q_callB, ld_own, ld_bor, fb_ok, fb_ex, q_has, has_some, os_ok, ns_some, ms_own, ms_bor, q_st, mt_some, mu_own, mu_bor, q_mutV, q_ownT, ow_own, ow_bor, q_m1, q_m0, q_tgN, q_tg, q_tgR, to_some, tgT_tup, tgT_lst, tgC_cons, tgN_nil, q_for, q_map1, q_walk, so_list, so_tup, wo_list, wo_tup, e_add, e_sub, e_neg, e_lt, e_gt, e_le, e_ge, e_eq, e_ne, e_isN, e_isnN, e_isB, e_isnB, pk_some, e_ixL, e_ixT, e_lastL, e_lastT, e_part, e_intR, e_noPart, e_slice, e_slL, e_slT, q_par, q_par1, q_par2, po_val, po_new, nx_some, q_getM, q_getE, gate_some, go_int, dat_val, q_pop2, ow_dict, fin_nx, fin_rt, fin_ex, bor_t, bor_f, e_lenL, e_lenT, e_abs, e_min, e_max, e_int, e_intB, e_tupL, e_tupT, e_lstL, e_lstT, e_all, e_any, e_sum, e_isa, e_set0, e_set2, Int.reduceLE, Int.reduceLT, Int.reduceToNat, Int.reduceNeg, Int.le_refl, Int.toNat_zero, List.getElem?_cons_zero, List.getElem?_cons_succ, List.set_cons_zero, List.set_cons_succ, Option.bind_some, Bool.false_eq_true, if_true, if_false, ite_true, ite_false, reduceIte, decide_true, decide_false, Bool.not_true, Bool.not_false, List.map_cons, List.map_nil, List.any_cons, List.any_nil, Bool.or_false, Bool.or_true, Bool.true_or, Bool.false_or, Bool.and_true, Bool.true_and, Bool.false_and, Bool.and_false, show Ty.tuple.is (drvD g t ls) = true from rfl, show lenD [drvD g t ls] = some (false, .int 3) from rfl, show ixD (drvD g t ls) (.int 0) = some (false, .int g) from rfl, show ixD (drvD g t ls) (.int 1) = some (false, .int t) from rfl,
    show ixD (drvD g t ls) (.int 2) = some (false, levD ls) from rfl, within_true hg hg5, within_true ht ht5, are_levers_ok h]
theorem look_at_drive_ok {g t : Int} {ls : List (Int × Int)} (hg : 0 ≤ g) (hg5 : g ≤ 5) (ht : 1 ≤ t) (ht5 : t ≤ 50) (h : Lv ls) : f_look_at_drive [drvD g t ls] = .ok false .none .none := by
  refine Eq.trans (run_eq (t := t_look_at_drive) (n := 1) (np := 1) (bor := false) rfl) ?_
  rw [show env0 1 false [drvD g t ls] = [some (.pers, drvD g t ls)] from rfl]
  unfold t_look_at_drive
  simp only [bd_ok, bd_ex, bd_bad, q_pure, q_optS, q_optN, sq_nx, sq_rt, sq_ex, sq_bad, q_seq, q_pass, of_ok, of_ex, of_bad, q_expr, q_if, q_ret, ret_val, ret_new, q_raise, q_var, sv_pers, sv_own, sv_bor, q_con, q_datV, q_datN, q_datS, sd_some, q_optRS, q_optRN, res_t, res_f, q_bin2, q_un1, q_persM, pr_val, pr_new, pr_slot, sp_own, q_mvM, mv_val, mv_new, mv_slot, sm_own, q_set, q_free, fr_none, fr_pers, fr_own, put_val, put_new, q_not, q_andB, q_orB, q_boolM, br_bool, q_andM, q_orM, q_notM, q_ifM, q_chn2, ch_bool, q_cons, q_nil, q_tup, q_lst, q_opd1, q_opd2, q_callM, q_callF, fr_ok, fr_ex, fr_bad, q_callB, ld_own, ld_bor, fb_ok, fb_ex, q_has, has_some, os_ok, ns_some, ms_own, ms_bor, q_st, mt_some, mu_own, mu_bor, q_mutV, q_ownT, ow_own, ow_bor, q_m1, q_m0, q_tgN, q_tg, q_tgR, to_some, tgT_tup, tgT_lst, tgC_cons, tgN_nil, q_for, q_map1, q_walk, so_list, so_tup, wo_list, wo_tup, e_add, e_sub, e_neg, e_lt, e_gt, e_le, e_ge, e_eq, e_ne, e_isN, e_isnN, e_isB, e_isnB, pk_some, e_ixL, e_ixT, e_lastL, e_lastT, e_part, e_intR, e_noPart, e_slice, e_slL, e_slT, q_par, q_par1, q_par2, po_val, po_new, nx_some, q_getM, q_getE, gate_some, go_int, dat_val, q_pop2, ow_dict, fin_nx, fin_rt, fin_ex, bor_t, bor_f, e_lenL, e_lenT, e_abs, e_min, e_max, e_int, e_intB, e_tupL, e_tupT, e_lstL, e_lstT, e_all, e_any, e_sum, e_isa, e_set0, e_set2, Int.reduceLE, Int.reduceLT, Int.reduceToNat, Int.reduceNeg, Int.le_refl, Int.toNat_zero, List.getElem?_cons_zero, List.getElem?_cons_succ, List.set_cons_zero, List.set_cons_succ, Option.bind_some, Bool.false_eq_true, if_true, if_false, ite_true, ite_false, reduceIte, decide_true, decide_false, Bool.not_true, Bool.not_false, List.map_cons, List.map_nil, List.any_cons, List.any_nil, Bool.or_false, Bool.or_true, Bool.true_or, Bool.false_or, Bool.and_true, Bool.true_and, Bool.false_and, Bool.and_false, is_drive_ok hg hg5 ht ht5 h]
end LW

namespace LW
open PySem PySem.Spec PyProof.Rows L2 DL
/-! ### how far the paper goes: the text -/
def step (n : Int) (q : (Int × Int) × Int) : Int := if q.1.1 < n then q.1.2 * ((if n < q.2 then n else q.2) - q.1.1) else 0
def segs (ls : List (Int × Int)) (n : Int) : List ((Int × Int) × Int) := ls.zip ((ls.drop 1).map (·.1) ++ [n])
def Sv (ls : List (Int × Int)) (n : Int) : Int := ((segs ls n).map (step n)).sum
def Gv (t n : Int) : Int := t * (n / t * (n / t - 1) / 2) + n % t * (n / t)
def Fv (g t : Int) (ls : List (Int × Int)) (n : Int) : Int := g * Gv t n + Sv ls n
/-- numbers that are not too big -/
structure Ok (ls : List (Int × Int)) : Prop where
  len : ls.length ≤ 20
  in_ : ∀ p ∈ ls, 0 ≤ p.1 ∧ p.1 ≤ 1000000 ∧ 1 ≤ p.2 ∧ p.2 ≤ 40
def trD (q : (Int × Int) × Int) : PyData := .tuple [rowD q.1, .int q.2]
def envP (d : PyData) (n g t : Int) (ls : List (Int × Int)) (fu fo : Int) (en : PyData) : DEnv :=
  [some (.pers, d), some (.pers, .int n), some (.pers, .int g), some (.pers, .int t), some (.pers, levD ls), some (.pers, .int fu), some (.pers, .int fo), some (.pers, en), none, none, none, none]
theorem loop_passed {d en : PyData} {n g t fu : Int} {ls : List (Int × Int)} (hn : n < 1000000000000000000000) (hn0 : 0 ≤ n) : ∀ (tr : List ((Int × Int) × Int)) (fo : Int), (∀ q ∈ tr, 0 ≤ q.1.1 ∧ q.1.1 ≤ 1000000 ∧ 1 ≤ q.1.2 ∧ q.1.2 ≤ 40 ∧ 0 ≤ q.2 ∧ q.2 < 1000000000000000000000) →
    loopS (tgT (tgCons (tgT (tgCons (tgN 9) (tgCons (tgN 10) tgNil))) (tgCons (tgN 11) tgNil))) lb_passed_by_0 [9, 10, 11] (tr.map trD) (envP d n g t ls fu fo en) = .nx (envP d n g t ls fu (fo + (tr.map (step n)).sum) en)
  | [], fo, _ => by
    rw [List.map_nil, List.map_nil]
    show SRes.nx _ = _
    rw [List.sum_nil, Int.add_zero]
  | ((b, s), e) :: tr, fo, h => by
    obtain ⟨h1, h2, h3, h4, h5, h6⟩ := h _ List.mem_cons_self
    have ih := fun fo => loop_passed (d := d) (en := en) (g := g) (t := t) (fu := fu) (ls := ls) hn hn0 tr fo fun q hq => h q (List.mem_cons_of_mem _ hq)
    dsimp only at h1 h2 h3 h4 h5 h6
    rw [List.map_cons, List.map_cons, List.sum_cons]
    unfold loopS
    have eg : tgT (tgCons (tgT (tgCons (tgN 9) (tgCons (tgN 10) tgNil))) (tgCons (tgN 11) tgNil)) (trD ((b, s), e)) (envP d n g t ls fu fo en) = some [some (.pers, d), some (.pers, .int n), some (.pers, .int g), some (.pers, .int t), some (.pers, levD ls), some (.pers, .int fu), some (.pers, .int fo), some (.pers, en), none, some (.pers, .int b), some (.pers, .int s), some (.pers, .int e)] := rfl
    rw [eg]
    have eb : lb_passed_by_0 [some (.pers, d), some (.pers, .int n), some (.pers, .int g), some (.pers, .int t), some (.pers, levD ls), some (.pers, .int fu), some (.pers, .int fo), some (.pers, en), none, some (.pers, .int b), some (.pers, .int s), some (.pers, .int e)]
        = .nx [some (.pers, d), some (.pers, .int n), some (.pers, .int g), some (.pers, .int t), some (.pers, levD ls), some (.pers, .int fu), some (.pers, .int (fo + step n ((b, s), e))), some (.pers, en), none, some (.pers, .int b), some (.pers, .int s), some (.pers, .int e)] := by
      unfold lb_passed_by_0 step
      by_cases c : b < n
      · have m := e_mul1 (i := s) (j := (if n < e then n else e) - b) (sm_lt (by omega) (by omega)) (sm_lt (by split <;> omega) (by split <;> omega))
        simp only [bd_ok, bd_ex, bd_bad, q_pure, q_optS, q_optN, sq_nx, sq_rt, sq_ex, sq_bad, q_seq, q_pass, of_ok, of_ex, of_bad, q_expr, q_if, q_ret, ret_val, ret_new, q_raise, q_var, sv_pers, sv_own, sv_bor, q_con, q_datV, q_datN, q_datS, sd_some, q_optRS, q_optRN, res_t, res_f, q_bin2, q_un1, q_persM, pr_val, pr_new, pr_slot, sp_own, q_mvM, mv_val, mv_new, mv_slot, sm_own, q_set, q_free, fr_none, fr_pers, fr_own, put_val, put_new, q_not, q_andB, q_orB, q_boolM, br_bool, q_andM, q_orM, q_notM, q_ifM, q_chn2, ch_bool, q_cons, q_nil, q_tup, q_lst, q_opd1, q_opd2, q_callM, q_callF, fr_ok, fr_ex, fr_bad, q_callB, ld_own, ld_bor, fb_ok, fb_ex, q_has, has_some, os_ok, ns_some, ms_own, ms_bor, q_st, mt_some, mu_own, mu_bor, q_mutV, q_ownT, ow_own, ow_bor, q_m1, q_m0, q_tgN, q_tg, q_tgR, to_some, tgT_tup, tgT_lst, tgC_cons, tgN_nil, q_for, q_map1, q_walk, so_list, so_tup, wo_list, wo_tup, e_add, e_sub, e_neg, e_lt, e_gt, e_le, e_ge, e_eq, e_ne, e_isN, e_isnN, e_isB, e_isnB, pk_some, e_ixL, e_ixT, e_lastL, e_lastT, e_part, e_intR, e_noPart, e_slice, e_slL, e_slT, q_par, q_par1, q_par2, po_val, po_new, nx_some, q_getM, q_getE, gate_some, go_int, dat_val, q_pop2, ow_dict, fin_nx, fin_rt, fin_ex, bor_t, bor_f, e_lenL, e_lenT, e_abs, e_min, e_max, e_int, e_intB, e_tupL, e_tupT, e_lstL, e_lstT, e_all, e_any, e_sum, e_isa, e_set0, e_set2, Int.reduceLE, Int.reduceLT, Int.reduceToNat, Int.reduceNeg, Int.le_refl, Int.toNat_zero, List.getElem?_cons_zero, List.getElem?_cons_succ, List.set_cons_zero, List.set_cons_succ, Option.bind_some, Bool.false_eq_true, if_true, if_false, ite_true, ite_false, reduceIte, decide_true, decide_false, Bool.not_true, Bool.not_false, List.map_cons, List.map_nil, List.any_cons, List.any_nil, Bool.or_false, Bool.or_true, Bool.true_or, Bool.false_or, Bool.and_true, Bool.true_and, Bool.false_and, Bool.and_false, c, m]
      · simp only [bd_ok, bd_ex, bd_bad, q_pure, q_optS, q_optN, sq_nx, sq_rt, sq_ex, sq_bad, q_seq, q_pass, of_ok, of_ex, of_bad, q_expr, q_if, q_ret, ret_val, ret_new, q_raise, q_var, sv_pers, sv_own, sv_bor, q_con, q_datV, q_datN, q_datS, sd_some, q_optRS, q_optRN, res_t, res_f, q_bin2, q_un1, q_persM, pr_val, pr_new, pr_slot, sp_own, q_mvM, mv_val, mv_new, mv_slot, sm_own, q_set, q_free, fr_none, fr_pers, fr_own, put_val, put_new, q_not, q_andB, q_orB, q_boolM, br_bool, q_andM, q_orM, q_notM, q_ifM, q_chn2, ch_bool, q_cons, q_nil, q_tup, q_lst, q_opd1, q_opd2, q_callM, q_callF, fr_ok, fr_ex, fr_bad, q_callB, ld_own, ld_bor, fb_ok, fb_ex, q_has, has_some, os_ok, ns_some, ms_own, ms_bor, q_st, mt_some, mu_own, mu_bor, q_mutV, q_ownT, ow_own, ow_bor, q_m1, q_m0, q_tgN, q_tg, q_tgR, to_some, tgT_tup, tgT_lst, tgC_cons, tgN_nil, q_for, q_map1, q_walk, so_list, so_tup, wo_list, wo_tup, e_add, e_sub, e_neg, e_lt, e_gt, e_le, e_ge, e_eq, e_ne, e_isN, e_isnN, e_isB, e_isnB, pk_some, e_ixL, e_ixT, e_lastL, e_lastT, e_part, e_intR, e_noPart, e_slice, e_slL, e_slT, q_par, q_par1, q_par2, po_val, po_new, nx_some, q_getM, q_getE, gate_some, go_int, dat_val, q_pop2, ow_dict, fin_nx, fin_rt, fin_ex, bor_t, bor_f, e_lenL, e_lenT, e_abs, e_min, e_max, e_int, e_intB, e_tupL, e_tupT, e_lstL, e_lstT, e_all, e_any, e_sum, e_isa, e_set0, e_set2, Int.reduceLE, Int.reduceLT, Int.reduceToNat, Int.reduceNeg, Int.le_refl, Int.toNat_zero, List.getElem?_cons_zero, List.getElem?_cons_succ, List.set_cons_zero, List.set_cons_succ, Option.bind_some, Bool.false_eq_true, if_true, if_false, ite_true, ite_false, reduceIte, decide_true, decide_false, Bool.not_true, Bool.not_false, List.map_cons, List.map_nil, List.any_cons, List.any_nil, Bool.or_false, Bool.or_true, Bool.true_or, Bool.false_or, Bool.and_true, Bool.true_and, Bool.false_and, Bool.and_false, c, Int.add_zero]
    dsimp only
    rw [eb]
    dsimp only
    have ef : fgt [9, 10, 11] [some (.pers, d), some (.pers, .int n), some (.pers, .int g), some (.pers, .int t), some (.pers, levD ls), some (.pers, .int fu), some (.pers, .int (fo + step n ((b, s), e))), some (.pers, en), none, some (.pers, .int b), some (.pers, .int s), some (.pers, .int e)]
        = envP d n g t ls fu (fo + step n ((b, s), e)) en := rfl
    rw [ef, ih, Int.add_assoc]
def endD (p : Int × Int) : PyData := .int p.1
theorem zip_trD : ∀ (ls : List (Int × Int)) (es : List Int), List.zipWith (fun x y => PyData.tuple [x, y]) (ls.map rowD) (es.map PyData.int) = (ls.zip es).map trD
  | [], es => by simp
  | l :: ls, [] => by simp
  | l :: ls, e :: es => by
    rw [List.map_cons, List.map_cons, List.zipWith_cons_cons, zip_trD ls es, List.zip_cons_cons, List.map_cons]; rfl
theorem passed_by_ok {g t n : Int} {ls : List (Int × Int)} (h : Ok ls) (hg : 0 ≤ g) (hg5 : g ≤ 5) (ht : 1 ≤ t) (ht5 : t ≤ 50) (hn0 : 0 ≤ n) (hn : n < 1000000000000000000) : f_passed_by [drvD g t ls, .int n] = .ok false (.int (Fv g t ls n)) .none := by
  refine Eq.trans (run_eq (t := t_passed_by) (n := 12) (np := 2) (bor := false) rfl) ?_
  rw [show env0 12 false [drvD g t ls, .int n] = [some (.pers, drvD g t ls), some (.pers, .int n), none, none, none, none, none, none, none, none, none, none] from rfl]
  have t0 : 0 < t := by omega
  have f0 : 0 ≤ n / t := Int.ediv_nonneg hn0 (by omega)
  have f1 : n / t ≤ n := Int.ediv_le_self _ hn0
  have r0 : 0 ≤ n % t := Int.emod_nonneg _ (by omega)
  have r1 : n % t < t := Int.emod_lt_of_pos _ t0
  generalize hfu : n / t = fu at f0 f1
  generalize hre : n % t = re at r0 r1
  have b60 : ∀ {i : Int}, 0 ≤ i → i < 1000000000000000000 → Sm 60 i := fun h h' => sm_of (by omega) (by omega)
  have d1 := e_fdiv1 (i := n) (j := t) t0 (sm_lt (by omega) (by omega))
  have m1 := e_mul1 (i := fu) (j := fu - 1) (sm_lt (by omega) (by omega)) (sm_lt (by omega) (by omega))
  have d2 := e_fdiv1 (i := fu * (fu - 1)) (j := 2) (by decide) (sm_lt (by decide) (by decide))
  have q1 : Sm 122 (fu * (fu - 1) / 2) := by
    have hfuS : Sm 61 fu := (b60 f0 (by omega)).mono (by decide)
    have hfuT : Sm 61 (fu - 1) := sm_of (by omega) (by omega)
    have := hfuS.mul hfuT
    unfold Sm at this ⊢
    have h2 : (fu * (fu - 1) / 2).natAbs ≤ (fu * (fu - 1)).natAbs := by omega
    exact Nat.lt_of_le_of_lt h2 this
  have m2 := e_mul1 (i := t) (j := fu * (fu - 1) / 2) (sm_lt (by omega) (by omega)) (q1.mono (by decide))
  have m3 := e_mul1 (i := re) (j := fu) (sm_lt (by omega) (by omega)) (sm_lt (by omega) (by omega))
  have hS : Sm 300 (t * (fu * (fu - 1) / 2) + re * fu) := by
    have a1 : Sm 299 (t * (fu * (fu - 1) / 2)) := ((b60 (i := t) (by omega) (by omega)).mul q1).mono (by decide)
    have a2 : Sm 299 (re * fu) := ((b60 r0 (by omega)).mul (b60 f0 (by omega))).mono (by decide)
    exact a1.add a2
  have m4 := e_mul1 (i := g) (j := t * (fu * (fu - 1) / 2) + re * fu) (sm_lt (by omega) (by omega)) (hS.mono (by decide))
  have hl : ls.length ≤ 1000 := by have := h.len; omega
  have hc : c_passed_by_0 [some (.pers, drvD g t ls), some (.pers, .int n), some (.pers, .int g), some (.pers, .int t), some (.pers, levD ls), some (.pers, .int fu), some (.pers, .int (g * (t * (fu * (fu - 1) / 2) + re * fu))), none, none, none, none, none]
      = .ok (.new (.list ((ls.drop 1).map endD))) [some (.pers, drvD g t ls), some (.pers, .int n), some (.pers, .int g), some (.pers, .int t), some (.pers, levD ls), some (.pers, .int fu), some (.pers, .int (g * (t * (fu * (fu - 1) / 2) + re * fu))), none, none, none, none, none] := by
    refine lcm_enc rowD (ls.drop 1) endD ?_ rfl (line20 (by rw [List.length_drop]; omega)) fun p hp => ⟨[some (.pers, drvD g t ls), some (.pers, .int n), some (.pers, .int g), some (.pers, .int t), some (.pers, levD ls), some (.pers, .int fu), some (.pers, .int (g * (t * (fu * (fu - 1) / 2) + re * fu))), none, some (.pers, rowD p), none, none, none], [some (.pers, drvD g t ls), some (.pers, .int n), some (.pers, .int g), some (.pers, .int t), some (.pers, levD ls), some (.pers, .int fu), some (.pers, .int (g * (t * (fu * (fu - 1) / 2) + re * fu))), none, some (.pers, rowD p), none, none, none], rfl, ?_, rfl⟩
    · simp only [bd_ok, bd_ex, bd_bad, q_pure, q_optS, q_optN, sq_nx, sq_rt, sq_ex, sq_bad, q_seq, q_pass, of_ok, of_ex, of_bad, q_expr, q_if, q_ret, ret_val, ret_new, q_raise, q_var, sv_pers, sv_own, sv_bor, q_con, q_datV, q_datN, q_datS, sd_some, q_optRS, q_optRN, res_t, res_f, q_bin2, q_un1, q_persM, pr_val, pr_new, pr_slot, sp_own, q_mvM, mv_val, mv_new, mv_slot, sm_own, q_set, q_free, fr_none, fr_pers, fr_own, put_val, put_new, q_not, q_andB, q_orB, q_boolM, br_bool, q_andM, q_orM, q_notM, q_ifM, q_chn2, ch_bool, q_cons, q_nil, q_tup, q_lst, q_opd1, q_opd2, q_callM, q_callF, fr_ok, fr_ex, fr_bad, q_callB, ld_own, ld_bor, fb_ok, fb_ex, q_has, has_some, os_ok, ns_some, ms_own, ms_bor, q_st, mt_some, mu_own, mu_bor, q_mutV, q_ownT, ow_own, ow_bor, q_m1, q_m0, q_tgN, q_tg, q_tgR, to_some, tgT_tup, tgT_lst, tgC_cons, tgN_nil, q_for, q_map1, q_walk, so_list, so_tup, wo_list, wo_tup, e_add, e_sub, e_neg, e_lt, e_gt, e_le, e_ge, e_eq, e_ne, e_isN, e_isnN, e_isB, e_isnB, pk_some, e_ixL, e_ixT, e_lastL, e_lastT, e_part, e_intR, e_noPart, e_slice, e_slL, e_slT, q_par, q_par1, q_par2, po_val, po_new, nx_some, q_getM, q_getE, gate_some, go_int, dat_val, q_pop2, ow_dict, fin_nx, fin_rt, fin_ex, bor_t, bor_f, e_lenL, e_lenT, e_abs, e_min, e_max, e_int, e_intB, e_tupL, e_tupT, e_lstL, e_lstT, e_all, e_any, e_sum, e_isa, e_set0, e_set2, Int.reduceLE, Int.reduceLT, Int.reduceToNat, Int.reduceNeg, Int.le_refl, Int.toNat_zero, List.getElem?_cons_zero, List.getElem?_cons_succ, List.set_cons_zero, List.set_cons_succ, Option.bind_some, Bool.false_eq_true, if_true, if_false, ite_true, ite_false, reduceIte, decide_true, decide_false, Bool.not_true, Bool.not_false, List.map_cons, List.map_nil, List.any_cons, List.any_nil, Bool.or_false, Bool.or_true, Bool.true_or, Bool.false_or, Bool.and_true, Bool.true_and, Bool.false_and, Bool.and_false, show ∀ l h, sliceD (levD ls) l h = some (false, .tuple (cutD (ls.map rowD) l h)) from fun _ _ => rfl, cut_from, List.map_drop]
    · unfold ce_passed_by_0
      simp only [bd_ok, bd_ex, bd_bad, q_pure, q_optS, q_optN, sq_nx, sq_rt, sq_ex, sq_bad, q_seq, q_pass, of_ok, of_ex, of_bad, q_expr, q_if, q_ret, ret_val, ret_new, q_raise, q_var, sv_pers, sv_own, sv_bor, q_con, q_datV, q_datN, q_datS, sd_some, q_optRS, q_optRN, res_t, res_f, q_bin2, q_un1, q_persM, pr_val, pr_new, pr_slot, sp_own, q_mvM, mv_val, mv_new, mv_slot, sm_own, q_set, q_free, fr_none, fr_pers, fr_own, put_val, put_new, q_not, q_andB, q_orB, q_boolM, br_bool, q_andM, q_orM, q_notM, q_ifM, q_chn2, ch_bool, q_cons, q_nil, q_tup, q_lst, q_opd1, q_opd2, q_callM, q_callF, fr_ok, fr_ex, fr_bad, q_callB, ld_own, ld_bor, fb_ok, fb_ex, q_has, has_some, os_ok, ns_some, ms_own, ms_bor, q_st, mt_some, mu_own, mu_bor, q_mutV, q_ownT, ow_own, ow_bor, q_m1, q_m0, q_tgN, q_tg, q_tgR, to_some, tgT_tup, tgT_lst, tgC_cons, tgN_nil, q_for, q_map1, q_walk, so_list, so_tup, wo_list, wo_tup, e_add, e_sub, e_neg, e_lt, e_gt, e_le, e_ge, e_eq, e_ne, e_isN, e_isnN, e_isB, e_isnB, pk_some, e_ixL, e_ixT, e_lastL, e_lastT, e_part, e_intR, e_noPart, e_slice, e_slL, e_slT, q_par, q_par1, q_par2, po_val, po_new, nx_some, q_getM, q_getE, gate_some, go_int, dat_val, q_pop2, ow_dict, fin_nx, fin_rt, fin_ex, bor_t, bor_f, e_lenL, e_lenT, e_abs, e_min, e_max, e_int, e_intB, e_tupL, e_tupT, e_lstL, e_lstT, e_all, e_any, e_sum, e_isa, e_set0, e_set2, Int.reduceLE, Int.reduceLT, Int.reduceToNat, Int.reduceNeg, Int.le_refl, Int.toNat_zero, List.getElem?_cons_zero, List.getElem?_cons_succ, List.set_cons_zero, List.set_cons_succ, Option.bind_some, Bool.false_eq_true, if_true, if_false, ite_true, ite_false, reduceIte, decide_true, decide_false, Bool.not_true, Bool.not_false, List.map_cons, List.map_nil, List.any_cons, List.any_nil, Bool.or_false, Bool.or_true, Bool.true_or, Bool.false_or, Bool.and_true, Bool.true_and, Bool.false_and, Bool.and_false, row_0, endD]
  have he : addD (.list ((ls.drop 1).map endD)) (.list [.int n]) = some (true, .list (((ls.drop 1).map (·.1) ++ [n]).map PyData.int)) := by
    rw [e_addL (line20 (by rw [List.length_map, List.length_drop]; show ls.length - 1 + 1 ≤ 1000; have := h.len; omega))]
    rw [List.map_append, List.map_map]; rfl
  have hz : zip2O [levD ls, .list (((ls.drop 1).map (·.1) ++ [n]).map PyData.int)] = some ((segs ls n).map trD) := by
    rw [e_zip2 (lev_seq ls) so_list, zip_trD]; rfl
  have hlp := loop_passed (d := drvD g t ls) (en := .list (((ls.drop 1).map (·.1) ++ [n]).map PyData.int)) (g := g) (t := t) (fu := fu) (ls := ls) (n := n) (by omega) hn0 (segs ls n) (g * (t * (fu * (fu - 1) / 2) + re * fu)) fun q hq => by
    obtain ⟨h1, h2⟩ := List.of_mem_zip hq
    obtain ⟨a1, a2, a3, a4⟩ := h.in_ _ h1
    refine ⟨a1, a2, a3, a4, ?_⟩
    rcases List.mem_append.mp h2 with h2 | h2
    · obtain ⟨p, hp, e⟩ := List.mem_map.mp h2
      obtain ⟨b1, b2, _⟩ := h.in_ p (List.mem_of_mem_drop hp)
      omega
    · have : q.2 = n := by simpa using h2
      omega
  have hF : Fv g t ls n = g * (t * (fu * (fu - 1) / 2) + re * fu) + ((segs ls n).map (step n)).sum := by
    unfold Fv Gv Sv; rw [hfu, hre]
  unfold t_passed_by l_passed_by_0
  have tD : ∀ r δ, tgT r (drvD g t ls) δ = r [.int g, .int t, levD ls] δ := fun _ _ => rfl
  simp only [bd_ok, bd_ex, bd_bad, q_pure, q_optS, q_optN, sq_nx, sq_rt, sq_ex, sq_bad, q_seq, q_pass, of_ok, of_ex, of_bad, q_expr, q_if, q_ret, ret_val, ret_new, q_raise, q_var, sv_pers, sv_own, sv_bor, q_con, q_datV, q_datN, q_datS, sd_some, q_optRS, q_optRN, res_t, res_f, q_bin2, q_un1, q_persM, pr_val, pr_new, pr_slot, sp_own, q_mvM, mv_val, mv_new, mv_slot, sm_own, q_set, q_free, fr_none, fr_pers, fr_own, put_val, put_new, q_not, q_andB, q_orB, q_boolM, br_bool, q_andM, q_orM, q_notM, q_ifM, q_chn2, ch_bool, q_cons, q_nil, q_tup, q_lst, q_opd1, q_opd2, q_callM, q_callF, fr_ok, fr_ex, fr_bad, q_callB, ld_own, ld_bor, fb_ok, fb_ex, q_has, has_some, os_ok, ns_some, ms_own, ms_bor, q_st, mt_some, mu_own, mu_bor, q_mutV, q_ownT, ow_own, ow_bor, q_m1, q_m0, q_tgN, q_tg, q_tgR, to_some, tgT_tup, tgT_lst, tgC_cons, tgN_nil, q_for, q_map1, q_walk, so_list, so_tup, wo_list, wo_tup, e_add, e_sub, e_neg, e_lt, e_gt, e_le, e_ge, e_eq, e_ne, e_isN, e_isnN, e_isB, e_isnB, pk_some, e_ixL, e_ixT, e_lastL, e_lastT, e_part, e_intR, e_noPart, e_slice, e_slL, e_slT, q_par, q_par1, q_par2, po_val, po_new, nx_some, q_getM, q_getE, gate_some, go_int, dat_val, q_pop2, ow_dict, fin_nx, fin_rt, fin_ex, bor_t, bor_f, e_lenL, e_lenT, e_abs, e_min, e_max, e_int, e_intB, e_tupL, e_tupT, e_lstL, e_lstT, e_all, e_any, e_sum, e_isa, e_set0, e_set2, Int.reduceLE, Int.reduceLT, Int.reduceToNat, Int.reduceNeg, Int.le_refl, Int.toNat_zero, List.getElem?_cons_zero, List.getElem?_cons_succ, List.set_cons_zero, List.set_cons_succ, Option.bind_some, Bool.false_eq_true, if_true, if_false, ite_true, ite_false, reduceIte, decide_true, decide_false, Bool.not_true, Bool.not_false, List.map_cons, List.map_nil, List.any_cons, List.any_nil, Bool.or_false, Bool.or_true, Bool.true_or, Bool.false_or, Bool.and_true, Bool.true_and, Bool.false_and, Bool.and_false, tD, d1, hfu, e_mod t0, hre, m1, d2, m2, m3, m4, hc, he, hz]
  unfold envP at hlp
  rw [hlp, hF]
  simp only [bd_ok, bd_ex, bd_bad, q_pure, q_optS, q_optN, sq_nx, sq_rt, sq_ex, sq_bad, q_seq, q_pass, of_ok, of_ex, of_bad, q_expr, q_if, q_ret, ret_val, ret_new, q_raise, q_var, sv_pers, sv_own, sv_bor, q_con, q_datV, q_datN, q_datS, sd_some, q_optRS, q_optRN, res_t, res_f, q_bin2, q_un1, q_persM, pr_val, pr_new, pr_slot, sp_own, q_mvM, mv_val, mv_new, mv_slot, sm_own, q_set, q_free, fr_none, fr_pers, fr_own, put_val, put_new, q_not, q_andB, q_orB, q_boolM, br_bool, q_andM, q_orM, q_notM, q_ifM, q_chn2, ch_bool, q_cons, q_nil, q_tup, q_lst, q_opd1, q_opd2, q_callM, q_callF, fr_ok, fr_ex, fr_bad, q_callB, ld_own, ld_bor, fb_ok, fb_ex, q_has, has_some, os_ok, ns_some, ms_own, ms_bor, q_st, mt_some, mu_own, mu_bor, q_mutV, q_ownT, ow_own, ow_bor, q_m1, q_m0, q_tgN, q_tg, q_tgR, to_some, tgT_tup, tgT_lst, tgC_cons, tgN_nil, q_for, q_map1, q_walk, so_list, so_tup, wo_list, wo_tup, e_add, e_sub, e_neg, e_lt, e_gt, e_le, e_ge, e_eq, e_ne, e_isN, e_isnN, e_isB, e_isnB, pk_some, e_ixL, e_ixT, e_lastL, e_lastT, e_part, e_intR, e_noPart, e_slice, e_slL, e_slT, q_par, q_par1, q_par2, po_val, po_new, nx_some, q_getM, q_getE, gate_some, go_int, dat_val, q_pop2, ow_dict, fin_nx, fin_rt, fin_ex, bor_t, bor_f, e_lenL, e_lenT, e_abs, e_min, e_max, e_int, e_intB, e_tupL, e_tupT, e_lstL, e_lstT, e_all, e_any, e_sum, e_isa, e_set0, e_set2, Int.reduceLE, Int.reduceLT, Int.reduceToNat, Int.reduceNeg, Int.le_refl, Int.toNat_zero, List.getElem?_cons_zero, List.getElem?_cons_succ, List.set_cons_zero, List.set_cons_succ, Option.bind_some, Bool.false_eq_true, if_true, if_false, ite_true, ite_false, reduceIte, decide_true, decide_false, Bool.not_true, Bool.not_false, List.map_cons, List.map_nil, List.any_cons, List.any_nil, Bool.or_false, Bool.or_true, Bool.true_or, Bool.false_or, Bool.and_true, Bool.true_and, Bool.false_and, Bool.and_false]
end LW

namespace LW
open PySem PySem.Spec PyProof.Rows L2 DL
/-- a drive as it may be -/
structure Dr (g t : Int) (ls : List (Int × Int)) : Prop extends Lv ls where
  g0 : 0 ≤ g
  g5 : g ≤ 5
  t1 : 1 ≤ t
  t5 : t ≤ 50
theorem Dr.ok {g t : Int} {ls : List (Int × Int)} (h : Dr g t ls) : Ok ls := ⟨h.len, h.in_⟩
section
variable {g t n : Int} {ls : List (Int × Int)} (h : Dr g t ls)
include h
theorem passed_by_dr (hn0 : 0 ≤ n) (hn : n < 1000000000000000000) : f_passed_by [drvD g t ls, .int n] = .ok false (.int (Fv g t ls n)) .none := passed_by_ok h.ok h.g0 h.g5 h.t1 h.t5 hn0 hn
end
/-! ### the plain law of it -/
/-- the lever that stands at n (d: none yet) -/
def st : List (Int × Int) → Int → Int → Int
  | [], _, d => d
  | (b, s) :: r, n, d => if b ≤ n then st r n s else d
theorem Sv_one (b s n : Int) : Sv [(b, s)] n = if b < n then s * (n - b) else 0 := by
  show (step n ((b, s), n)) + 0 = _
  unfold step
  dsimp only
  rw [if_neg (Int.lt_irrefl n), Int.add_zero]
theorem Sv_cons (b s b' s' : Int) (r : List (Int × Int)) (n : Int) : Sv ((b, s) :: (b', s') :: r) n = step n ((b, s), b') + Sv ((b', s') :: r) n := rfl
theorem step_diff (b s e n : Int) (h : b < e) : step (n + 1) ((b, s), e) - step n ((b, s), e) = if b ≤ n ∧ n < e then s else 0 := by
  unfold step
  dsimp only
  by_cases h1 : b < n
  · have h1' : b < n + 1 := by omega
    by_cases h2 : n < e
    · have hc : b ≤ n ∧ n < e := ⟨by omega, h2⟩
      by_cases h3 : n + 1 < e
      · simp only [h1, h1', h2, h3, hc, if_true, and_self]
        rw [← Int.mul_sub, show (n + 1 - b) - (n - b) = 1 by omega, Int.mul_one]
      · simp only [h1, h1', h2, h3, hc, if_true, if_false, and_self]
        rw [← Int.mul_sub, show (e - b) - (n - b) = 1 by omega, Int.mul_one]
    · have h3 : ¬ n + 1 < e := by omega
      have hc : ¬ (b ≤ n ∧ n < e) := fun z => h2 z.2
      simp only [h1, h1', h2, h3, if_true, if_false, and_false, Int.sub_self]
  · by_cases h2 : b = n
    · subst h2
      have h1' : b < b + 1 := by omega
      have hc : b ≤ b ∧ b < e := ⟨Int.le_refl _, h⟩
      by_cases h3 : b + 1 < e
      · simp only [h1, h1', h3, hc, if_true, if_false, and_self]
        rw [show b + 1 - b = 1 by omega, Int.mul_one, Int.sub_zero]
      · simp only [h1, h1', h3, hc, if_true, if_false, and_self]
        rw [show e - b = 1 by omega, Int.mul_one, Int.sub_zero]
    · have h1' : ¬ b < n + 1 := by omega
      have hc : ¬ (b ≤ n) := by omega
      simp only [h1, h1', hc, if_false, false_and, Int.sub_self]
theorem Sv_diff : ∀ (ls : List (Int × Int)) (n : Int), (ls.Pairwise fun p q => p.1 < q.1) → ls ≠ [] → Sv ls (n + 1) - Sv ls n = st ls n 0
  | [], _, _, h => absurd rfl h
  | [(b, s)], n, _, _ => by
    rw [Sv_one, Sv_one]
    unfold st st
    by_cases h1 : b < n
    · rw [if_pos h1, if_pos (by omega), if_pos (by omega), ← Int.mul_sub, show (n + 1 - b) - (n - b) = 1 by omega, Int.mul_one]
    · by_cases h2 : b = n
      · subst h2
        rw [if_pos (by omega), if_neg (by omega), if_pos (Int.le_refl _), show b + 1 - b = 1 by omega, Int.mul_one, Int.sub_zero]
      · rw [if_neg (by omega), if_neg h1, if_neg (by omega)]; rfl
  | (b, s) :: (b', s') :: r, n, up, _ => by
    cases up with
    | cons a up' =>
      have hb : b < b' := a (b', s') List.mem_cons_self
      have ih := Sv_diff ((b', s') :: r) n up' (by simp)
      have sd := step_diff b s b' n hb
      rw [Sv_cons, Sv_cons]
      have e : st ((b, s) :: (b', s') :: r) n 0 = if b ≤ n then (if b' ≤ n then st r n s' else s) else 0 := rfl
      have e' : st ((b', s') :: r) n 0 = if b' ≤ n then st r n s' else 0 := rfl
      rw [e] 
      rw [e'] at ih
      by_cases h1 : b ≤ n
      · rw [if_pos h1]
        by_cases h2 : b' ≤ n
        · rw [if_pos h2] at ih ⊢
          rw [if_neg (by omega)] at sd
          omega
        · rw [if_neg h2] at ih ⊢
          rw [if_pos ⟨h1, by omega⟩] at sd
          omega
      · rw [if_neg h1]
        rw [if_neg (by omega)] at ih
        rw [if_neg (by omega)] at sd
        omega
theorem Gv_diff {t n : Int} (ht : 1 ≤ t) (hn : 0 ≤ n) : Gv t (n + 1) - Gv t n = n / t := by
  have t0 : t ≠ 0 := by omega
  have r0 : 0 ≤ n % t := Int.emod_nonneg _ t0
  have r1 : n % t < t := Int.emod_lt_of_pos _ (by omega)
  have hd := Int.mul_ediv_add_emod n t
  generalize hq : n / t = q at hd
  generalize hr : n % t = r at r0 r1 hd
  have key : ∀ q' r', 0 ≤ r' → r' < t → n + 1 = t * q' + r' → (n + 1) / t = q' ∧ (n + 1) % t = r' := fun q' r' a b e => by
    constructor
    · rw [e, Int.add_comm, Int.add_mul_ediv_left _ _ t0, Int.ediv_eq_zero_of_lt a b, Int.zero_add]
    · rw [e, Int.add_comm, Int.add_mul_emod_self_left, Int.emod_eq_of_lt a b]
  unfold Gv
  rw [hq, hr]
  by_cases c : r + 1 < t
  · obtain ⟨e1, e2⟩ := key q (r + 1) (by omega) c (by omega)
    rw [e1, e2, Int.add_mul]; omega
  · obtain ⟨e1, e2⟩ := key (q + 1) 0 (by omega) (by omega) (by rw [Int.mul_add, Int.mul_one]; omega)
    rw [e1, e2, Int.zero_mul, Int.add_zero, show q + 1 - 1 = q by omega]
    have hh : (q + 1) * q / 2 = q * (q - 1) / 2 + q := by
      have : (q + 1) * q = q * (q - 1) + q * 2 := by rw [Int.add_mul, Int.mul_sub, Int.mul_one, Int.one_mul]; omega
      rw [this, Int.add_mul_ediv_right _ _ (by decide)]
    rw [hh, Int.mul_add]
    have : r = t - 1 := by omega
    rw [this, Int.sub_mul, Int.one_mul]
    omega
theorem st_pos : ∀ (ls : List (Int × Int)) (n d : Int), (∀ p ∈ ls, 1 ≤ p.2) → 1 ≤ d → 1 ≤ st ls n d
  | [], _, _, _, h => h
  | (b, s) :: r, n, d, h, hd => by
    unfold st
    by_cases c : b ≤ n
    · rw [if_pos c]; exact st_pos r n s (fun p hp => h p (List.mem_cons_of_mem _ hp)) (h _ List.mem_cons_self)
    · rw [if_neg c]; exact hd
section
variable {g t : Int} {ls : List (Int × Int)} (h : Dr g t ls)
include h
theorem Dr.ne : ls ≠ [] := by obtain ⟨s, r, e⟩ := h.hd; rw [e]; simp
theorem F_diff {n : Int} (hn : 0 ≤ n) : Fv g t ls (n + 1) - Fv g t ls n = st ls n 0 + g * (n / t) := by
  have h1 := Sv_diff ls n h.up h.ne
  have h2 := Gv_diff h.t1 hn
  unfold Fv
  have : g * Gv t (n + 1) - g * Gv t n = g * (n / t) := by rw [← Int.mul_sub, h2]
  omega
theorem st_pos0 {n : Int} (hn : 0 ≤ n) : 1 ≤ st ls n 0 := by
  obtain ⟨s, r, e⟩ := h.hd
  have hp := h.in_
  rw [e] at hp ⊢
  unfold st
  rw [if_pos hn]
  exact st_pos r n s (fun p hq => (hp p (List.mem_cons_of_mem _ hq)).2.2.1) (hp _ List.mem_cons_self).2.2.1
theorem F_up {n : Int} (hn : 0 ≤ n) : Fv g t ls n + 1 ≤ Fv g t ls (n + 1) := by
  have h1 := F_diff h hn
  have h2 := st_pos0 h hn
  have h3 : 0 ≤ g * (n / t) := Int.mul_nonneg h.g0 (Int.ediv_nonneg hn (by have := h.t1; omega))
  omega
theorem F_add (n : Int) (hn : 0 ≤ n) : ∀ k : Nat, Fv g t ls n + k ≤ Fv g t ls (n + k)
  | 0 => by simp
  | k + 1 => by
    have h1 := F_add n hn k
    have h2 := F_up h (n := n + k) (by omega)
    rw [show n + ((k + 1 : Nat) : Int) = n + k + 1 by omega]
    omega
theorem F_mono {m n : Int} (hm : 0 ≤ m) (hmn : m ≤ n) : Fv g t ls m + (n - m) ≤ Fv g t ls n := by
  have := F_add h m hm (n - m).toNat
  rw [show m + ((n - m).toNat : Int) = n by omega] at this
  omega
theorem F_zero : Fv g t ls 0 = 0 := by
  unfold Fv Gv
  have t0 : (0 : Int) / t = 0 := Int.zero_ediv _
  have t1 : (0 : Int) % t = 0 := Int.zero_emod _
  rw [t0, t1]
  have : Sv ls 0 = 0 := by
    unfold Sv
    have hp : ∀ q ∈ segs ls 0, step 0 q = 0 := fun q hq => by
      have := h.in_ q.1 (List.of_mem_zip hq).1
      unfold step; rw [if_neg (by omega)]
    generalize segs ls 0 = qs at hp
    induction qs with
    | nil => rfl
    | cons q qs ih => rw [List.map_cons, List.sum_cons, hp q List.mem_cons_self, ih fun q hq => hp q (List.mem_cons_of_mem _ hq)]; rfl
  rw [this]; simp
end
end LW

namespace LW
open PySem PySem.Spec PyProof.Rows L2 DL
section
variable {g t : Int} {ls : List (Int × Int)} (h : Dr g t ls)
include h
def envT (d : PyData) (sp hi : Int) (lo mi : Option (Kd × PyData)) : DEnv := [some (.pers, d), some (.pers, .int sp), some (.pers, .int hi), lo, mi]
theorem up_loop {sp : Int} (hsp : 0 ≤ sp) : ∀ (m n : Nat) (hi : Int), m < n → 1 ≤ hi → sp < hi * 2 ^ m → hi * 2 ^ m < 100000000000000000 →
    ∃ hi', whileN n wt_tick_by_1 wb_tick_by_1 (envT (drvD g t ls) sp hi none none) = .nx (envT (drvD g t ls) sp hi' none none) ∧ 1 ≤ hi' ∧ hi' ≤ hi * 2 ^ m ∧ sp < Fv g t ls hi'
  | m, 0, hi, l, _, _, _ => by omega
  | m, n + 1, hi, l, h1, h2, h3 => by
    have hb : hi ≤ hi * 2 ^ m := by
      have : (1 : Int) ≤ 2 ^ m := by
        have := Int.pow_pos (n := 2) (m := m) (by decide)
        omega
      calc hi = hi * 1 := by rw [Int.mul_one]
        _ ≤ hi * 2 ^ m := Int.mul_le_mul_of_nonneg_left this (by omega)
    have e1 : wt_tick_by_1 (envT (drvD g t ls) sp hi none none) = .ok (decide (Fv g t ls hi ≤ sp)) (envT (drvD g t ls) sp hi none none) := by
      unfold wt_tick_by_1 envT
      simp only [bd_ok, bd_ex, bd_bad, q_pure, q_optS, q_optN, sq_nx, sq_rt, sq_ex, sq_bad, q_seq, q_pass, of_ok, of_ex, of_bad, q_expr, q_if, q_ret, ret_val, ret_new, q_raise, q_var, sv_pers, sv_own, sv_bor, q_con, q_datV, q_datN, q_datS, sd_some, q_optRS, q_optRN, res_t, res_f, q_bin2, q_un1, q_persM, pr_val, pr_new, pr_slot, sp_own, q_mvM, mv_val, mv_new, mv_slot, sm_own, q_set, q_free, fr_none, fr_pers, fr_own, put_val, put_new, q_not, q_andB, q_orB, q_boolM, br_bool, q_andM, q_orM, q_notM, q_ifM, q_chn2, ch_bool, q_cons, q_nil, q_tup, q_lst, q_opd1, q_opd2, q_callM, q_callF, fr_ok, fr_ex, fr_bad, q_callB, ld_own, ld_bor, fb_ok, fb_ex, q_has, has_some, os_ok, ns_some, ms_own, ms_bor, q_st, mt_some, mu_own, mu_bor, q_mutV, q_ownT, ow_own, ow_bor, q_m1, q_m0, q_tgN, q_tg, q_tgR, to_some, tgT_tup, tgT_lst, tgC_cons, tgN_nil, q_for, q_map1, q_walk, so_list, so_tup, wo_list, wo_tup, e_add, e_sub, e_neg, e_lt, e_gt, e_le, e_ge, e_eq, e_ne, e_isN, e_isnN, e_isB, e_isnB, pk_some, e_ixL, e_ixT, e_lastL, e_lastT, e_part, e_intR, e_noPart, e_slice, e_slL, e_slT, q_par, q_par1, q_par2, po_val, po_new, nx_some, q_getM, q_getE, gate_some, go_int, dat_val, q_pop2, ow_dict, fin_nx, fin_rt, fin_ex, bor_t, bor_f, e_lenL, e_lenT, e_abs, e_min, e_max, e_int, e_intB, e_tupL, e_tupT, e_lstL, e_lstT, e_all, e_any, e_sum, e_isa, e_set0, e_set2, Int.reduceLE, Int.reduceLT, Int.reduceToNat, Int.reduceNeg, Int.le_refl, Int.toNat_zero, List.getElem?_cons_zero, List.getElem?_cons_succ, List.set_cons_zero, List.set_cons_succ, Option.bind_some, Bool.false_eq_true, if_true, if_false, ite_true, ite_false, reduceIte, decide_true, decide_false, Bool.not_true, Bool.not_false, List.map_cons, List.map_nil, List.any_cons, List.any_nil, Bool.or_false, Bool.or_true, Bool.true_or, Bool.false_or, Bool.and_true, Bool.true_and, Bool.false_and, Bool.and_false, passed_by_dr h (n := hi) (by omega) (by omega)]
    have e2 : wb_tick_by_1 (envT (drvD g t ls) sp hi none none) = .nx (envT (drvD g t ls) sp (hi * 2) none none) := by
      unfold wb_tick_by_1 envT
      have m1 := e_mul1 (i := hi) (j := 2) (sm_lt (by omega) (by omega)) (sm_lt (by decide) (by decide))
      simp only [bd_ok, bd_ex, bd_bad, q_pure, q_optS, q_optN, sq_nx, sq_rt, sq_ex, sq_bad, q_seq, q_pass, of_ok, of_ex, of_bad, q_expr, q_if, q_ret, ret_val, ret_new, q_raise, q_var, sv_pers, sv_own, sv_bor, q_con, q_datV, q_datN, q_datS, sd_some, q_optRS, q_optRN, res_t, res_f, q_bin2, q_un1, q_persM, pr_val, pr_new, pr_slot, sp_own, q_mvM, mv_val, mv_new, mv_slot, sm_own, q_set, q_free, fr_none, fr_pers, fr_own, put_val, put_new, q_not, q_andB, q_orB, q_boolM, br_bool, q_andM, q_orM, q_notM, q_ifM, q_chn2, ch_bool, q_cons, q_nil, q_tup, q_lst, q_opd1, q_opd2, q_callM, q_callF, fr_ok, fr_ex, fr_bad, q_callB, ld_own, ld_bor, fb_ok, fb_ex, q_has, has_some, os_ok, ns_some, ms_own, ms_bor, q_st, mt_some, mu_own, mu_bor, q_mutV, q_ownT, ow_own, ow_bor, q_m1, q_m0, q_tgN, q_tg, q_tgR, to_some, tgT_tup, tgT_lst, tgC_cons, tgN_nil, q_for, q_map1, q_walk, so_list, so_tup, wo_list, wo_tup, e_add, e_sub, e_neg, e_lt, e_gt, e_le, e_ge, e_eq, e_ne, e_isN, e_isnN, e_isB, e_isnB, pk_some, e_ixL, e_ixT, e_lastL, e_lastT, e_part, e_intR, e_noPart, e_slice, e_slL, e_slT, q_par, q_par1, q_par2, po_val, po_new, nx_some, q_getM, q_getE, gate_some, go_int, dat_val, q_pop2, ow_dict, fin_nx, fin_rt, fin_ex, bor_t, bor_f, e_lenL, e_lenT, e_abs, e_min, e_max, e_int, e_intB, e_tupL, e_tupT, e_lstL, e_lstT, e_all, e_any, e_sum, e_isa, e_set0, e_set2, Int.reduceLE, Int.reduceLT, Int.reduceToNat, Int.reduceNeg, Int.le_refl, Int.toNat_zero, List.getElem?_cons_zero, List.getElem?_cons_succ, List.set_cons_zero, List.set_cons_succ, Option.bind_some, Bool.false_eq_true, if_true, if_false, ite_true, ite_false, reduceIte, decide_true, decide_false, Bool.not_true, Bool.not_false, List.map_cons, List.map_nil, List.any_cons, List.any_nil, Bool.or_false, Bool.or_true, Bool.true_or, Bool.false_or, Bool.and_true, Bool.true_and, Bool.false_and, Bool.and_false, m1]
    unfold whileN
    rw [e1]
    show ∃ hi', (if decide (Fv g t ls hi ≤ sp) = true then _ else _) = _ ∧ _
    by_cases c : Fv g t ls hi ≤ sp
    · rw [decide_eq_true c, if_pos rfl, e2]
      have hF := F_mono h (m := 0) (n := hi) (Int.le_refl _) (by omega)
      rw [F_zero h] at hF
      cases m with
      | zero => rw [Int.pow_zero, Int.mul_one] at h2; omega
      | succ m =>
        have ep : hi * 2 * 2 ^ m = hi * 2 ^ (m + 1) := by rw [Int.pow_succ, Int.mul_assoc, Int.mul_comm 2]
        obtain ⟨hi', q1, q2, q3, q4⟩ := up_loop hsp m n (hi * 2) (by omega) (by omega) (by rw [ep]; exact h2) (by rw [ep]; exact h3)
        exact ⟨hi', q1, q2, by rw [ep] at q3; exact q3, q4⟩
    · rw [decide_eq_false c, if_neg Bool.false_ne_true]
      exact ⟨hi, rfl, h1, hb, by omega⟩
theorem bi_loop {sp : Int} : ∀ (m n : Nat) (lo hi : Int) (mi : Option (Kd × PyData)), (∀ k d, mi = some (k, d) → k = .pers) → m < n → 0 ≤ lo → lo < hi → hi - lo ≤ 2 ^ m → hi < 1000000000000000000 → Fv g t ls lo ≤ sp → sp < Fv g t ls hi →
    ∃ lo' hi' mi', whileN n wt_tick_by_0 wb_tick_by_0 (envT (drvD g t ls) sp hi (some (.pers, .int lo)) mi) = .nx (envT (drvD g t ls) sp hi' (some (.pers, .int lo')) mi') ∧ 0 ≤ lo' ∧ Fv g t ls lo' ≤ sp ∧ sp < Fv g t ls (lo' + 1)
  | m, 0, lo, hi, mi, _, l, _, _, _, _, _, _ => by omega
  | m, n + 1, lo, hi, mi, hm, l, h0, h1, h2, h3, h4, h5 => by
    have e1 : wt_tick_by_0 (envT (drvD g t ls) sp hi (some (.pers, .int lo)) mi) = .ok (decide (1 < hi - lo)) (envT (drvD g t ls) sp hi (some (.pers, .int lo)) mi) := by
      unfold wt_tick_by_0 envT
      simp only [bd_ok, bd_ex, bd_bad, q_pure, q_optS, q_optN, sq_nx, sq_rt, sq_ex, sq_bad, q_seq, q_pass, of_ok, of_ex, of_bad, q_expr, q_if, q_ret, ret_val, ret_new, q_raise, q_var, sv_pers, sv_own, sv_bor, q_con, q_datV, q_datN, q_datS, sd_some, q_optRS, q_optRN, res_t, res_f, q_bin2, q_un1, q_persM, pr_val, pr_new, pr_slot, sp_own, q_mvM, mv_val, mv_new, mv_slot, sm_own, q_set, q_free, fr_none, fr_pers, fr_own, put_val, put_new, q_not, q_andB, q_orB, q_boolM, br_bool, q_andM, q_orM, q_notM, q_ifM, q_chn2, ch_bool, q_cons, q_nil, q_tup, q_lst, q_opd1, q_opd2, q_callM, q_callF, fr_ok, fr_ex, fr_bad, q_callB, ld_own, ld_bor, fb_ok, fb_ex, q_has, has_some, os_ok, ns_some, ms_own, ms_bor, q_st, mt_some, mu_own, mu_bor, q_mutV, q_ownT, ow_own, ow_bor, q_m1, q_m0, q_tgN, q_tg, q_tgR, to_some, tgT_tup, tgT_lst, tgC_cons, tgN_nil, q_for, q_map1, q_walk, so_list, so_tup, wo_list, wo_tup, e_add, e_sub, e_neg, e_lt, e_gt, e_le, e_ge, e_eq, e_ne, e_isN, e_isnN, e_isB, e_isnB, pk_some, e_ixL, e_ixT, e_lastL, e_lastT, e_part, e_intR, e_noPart, e_slice, e_slL, e_slT, q_par, q_par1, q_par2, po_val, po_new, nx_some, q_getM, q_getE, gate_some, go_int, dat_val, q_pop2, ow_dict, fin_nx, fin_rt, fin_ex, bor_t, bor_f, e_lenL, e_lenT, e_abs, e_min, e_max, e_int, e_intB, e_tupL, e_tupT, e_lstL, e_lstT, e_all, e_any, e_sum, e_isa, e_set0, e_set2, Int.reduceLE, Int.reduceLT, Int.reduceToNat, Int.reduceNeg, Int.le_refl, Int.toNat_zero, List.getElem?_cons_zero, List.getElem?_cons_succ, List.set_cons_zero, List.set_cons_succ, Option.bind_some, Bool.false_eq_true, if_true, if_false, ite_true, ite_false, reduceIte, decide_true, decide_false, Bool.not_true, Bool.not_false, List.map_cons, List.map_nil, List.any_cons, List.any_nil, Bool.or_false, Bool.or_true, Bool.true_or, Bool.false_or, Bool.and_true, Bool.true_and, Bool.false_and, Bool.and_false]
    unfold whileN
    rw [e1]
    show ∃ lo' hi' mi', (if decide (1 < hi - lo) = true then _ else _) = _ ∧ _
    by_cases c : 1 < hi - lo
    · rw [decide_eq_true c, if_pos rfl]
      generalize hmid : (lo + hi) / 2 = mid
      have b1 : lo < mid := by omega
      have b2 : mid < hi := by omega
      have fr : free (envT (drvD g t ls) sp hi (some (.pers, .int lo)) mi) 4 = true := by
        unfold envT
        cases mi with
        | none => rfl
        | some p => obtain ⟨k, d⟩ := p; rw [hm k d rfl]; rfl
      have frO : freeO (some mi) = true := fr
      have d1 := e_fdiv1 (i := lo + hi) (j := 2) (by decide) (sm_lt (by decide) (by decide))
      have e2 : wb_tick_by_0 (envT (drvD g t ls) sp hi (some (.pers, .int lo)) mi) = .nx (if Fv g t ls mid ≤ sp then envT (drvD g t ls) sp hi (some (.pers, .int mid)) (some (.pers, .int mid)) else envT (drvD g t ls) sp mid (some (.pers, .int lo)) (some (.pers, .int mid))) := by
        unfold wb_tick_by_0 envT
        by_cases c2 : Fv g t ls mid ≤ sp
        · simp only [bd_ok, bd_ex, bd_bad, q_pure, q_optS, q_optN, sq_nx, sq_rt, sq_ex, sq_bad, q_seq, q_pass, of_ok, of_ex, of_bad, q_expr, q_if, q_ret, ret_val, ret_new, q_raise, q_var, sv_pers, sv_own, sv_bor, q_con, q_datV, q_datN, q_datS, sd_some, q_optRS, q_optRN, res_t, res_f, q_bin2, q_un1, q_persM, pr_val, pr_new, pr_slot, sp_own, q_mvM, mv_val, mv_new, mv_slot, sm_own, q_set, q_free, fr_none, fr_pers, fr_own, put_val, put_new, q_not, q_andB, q_orB, q_boolM, br_bool, q_andM, q_orM, q_notM, q_ifM, q_chn2, ch_bool, q_cons, q_nil, q_tup, q_lst, q_opd1, q_opd2, q_callM, q_callF, fr_ok, fr_ex, fr_bad, q_callB, ld_own, ld_bor, fb_ok, fb_ex, q_has, has_some, os_ok, ns_some, ms_own, ms_bor, q_st, mt_some, mu_own, mu_bor, q_mutV, q_ownT, ow_own, ow_bor, q_m1, q_m0, q_tgN, q_tg, q_tgR, to_some, tgT_tup, tgT_lst, tgC_cons, tgN_nil, q_for, q_map1, q_walk, so_list, so_tup, wo_list, wo_tup, e_add, e_sub, e_neg, e_lt, e_gt, e_le, e_ge, e_eq, e_ne, e_isN, e_isnN, e_isB, e_isnB, pk_some, e_ixL, e_ixT, e_lastL, e_lastT, e_part, e_intR, e_noPart, e_slice, e_slL, e_slT, q_par, q_par1, q_par2, po_val, po_new, nx_some, q_getM, q_getE, gate_some, go_int, dat_val, q_pop2, ow_dict, fin_nx, fin_rt, fin_ex, bor_t, bor_f, e_lenL, e_lenT, e_abs, e_min, e_max, e_int, e_intB, e_tupL, e_tupT, e_lstL, e_lstT, e_all, e_any, e_sum, e_isa, e_set0, e_set2, Int.reduceLE, Int.reduceLT, Int.reduceToNat, Int.reduceNeg, Int.le_refl, Int.toNat_zero, List.getElem?_cons_zero, List.getElem?_cons_succ, List.set_cons_zero, List.set_cons_succ, Option.bind_some, Bool.false_eq_true, if_true, if_false, ite_true, ite_false, reduceIte, decide_true, decide_false, Bool.not_true, Bool.not_false, List.map_cons, List.map_nil, List.any_cons, List.any_nil, Bool.or_false, Bool.or_true, Bool.true_or, Bool.false_or, Bool.and_true, Bool.true_and, Bool.false_and, Bool.and_false, d1, hmid, frO, passed_by_dr h (n := mid) (by omega) (by omega), c2]
        · simp only [bd_ok, bd_ex, bd_bad, q_pure, q_optS, q_optN, sq_nx, sq_rt, sq_ex, sq_bad, q_seq, q_pass, of_ok, of_ex, of_bad, q_expr, q_if, q_ret, ret_val, ret_new, q_raise, q_var, sv_pers, sv_own, sv_bor, q_con, q_datV, q_datN, q_datS, sd_some, q_optRS, q_optRN, res_t, res_f, q_bin2, q_un1, q_persM, pr_val, pr_new, pr_slot, sp_own, q_mvM, mv_val, mv_new, mv_slot, sm_own, q_set, q_free, fr_none, fr_pers, fr_own, put_val, put_new, q_not, q_andB, q_orB, q_boolM, br_bool, q_andM, q_orM, q_notM, q_ifM, q_chn2, ch_bool, q_cons, q_nil, q_tup, q_lst, q_opd1, q_opd2, q_callM, q_callF, fr_ok, fr_ex, fr_bad, q_callB, ld_own, ld_bor, fb_ok, fb_ex, q_has, has_some, os_ok, ns_some, ms_own, ms_bor, q_st, mt_some, mu_own, mu_bor, q_mutV, q_ownT, ow_own, ow_bor, q_m1, q_m0, q_tgN, q_tg, q_tgR, to_some, tgT_tup, tgT_lst, tgC_cons, tgN_nil, q_for, q_map1, q_walk, so_list, so_tup, wo_list, wo_tup, e_add, e_sub, e_neg, e_lt, e_gt, e_le, e_ge, e_eq, e_ne, e_isN, e_isnN, e_isB, e_isnB, pk_some, e_ixL, e_ixT, e_lastL, e_lastT, e_part, e_intR, e_noPart, e_slice, e_slL, e_slT, q_par, q_par1, q_par2, po_val, po_new, nx_some, q_getM, q_getE, gate_some, go_int, dat_val, q_pop2, ow_dict, fin_nx, fin_rt, fin_ex, bor_t, bor_f, e_lenL, e_lenT, e_abs, e_min, e_max, e_int, e_intB, e_tupL, e_tupT, e_lstL, e_lstT, e_all, e_any, e_sum, e_isa, e_set0, e_set2, Int.reduceLE, Int.reduceLT, Int.reduceToNat, Int.reduceNeg, Int.le_refl, Int.toNat_zero, List.getElem?_cons_zero, List.getElem?_cons_succ, List.set_cons_zero, List.set_cons_succ, Option.bind_some, Bool.false_eq_true, if_true, if_false, ite_true, ite_false, reduceIte, decide_true, decide_false, Bool.not_true, Bool.not_false, List.map_cons, List.map_nil, List.any_cons, List.any_nil, Bool.or_false, Bool.or_true, Bool.true_or, Bool.false_or, Bool.and_true, Bool.true_and, Bool.false_and, Bool.and_false, d1, hmid, frO, passed_by_dr h (n := mid) (by omega) (by omega), c2]
      rw [e2]
      cases m with
      | zero => rw [Int.pow_zero] at h2; omega
      | succ m =>
        rw [Int.pow_succ] at h2
        by_cases c2 : Fv g t ls mid ≤ sp
        · rw [if_pos c2]
          exact bi_loop m n mid hi _ (fun k d e => by cases e; rfl) (by omega) (by omega) b2 (by omega) h3 c2 h5
        · rw [if_neg c2]
          exact bi_loop m n lo mid _ (fun k d e => by cases e; rfl) (by omega) h0 b1 (by omega) (by omega) h4 (by omega)
    · rw [decide_eq_false c, if_neg Bool.false_ne_true]
      have : hi = lo + 1 := by omega
      exact ⟨lo, hi, mi, rfl, h0, h4, by rw [← this]; exact h5⟩
theorem tick_by_ok {sp : Int} (h0 : 0 ≤ sp) (h1 : sp < 1000000000000) : ∃ k, f_tick_by [drvD g t ls, .int sp] = .ok false (.int k) .none ∧ 0 ≤ k ∧ Fv g t ls k ≤ sp ∧ sp < Fv g t ls (k + 1) := by
  obtain ⟨hi, a1, a2, a3, a4⟩ := up_loop h h0 40 turns 1 (by decide) (by decide) (by omega) (by decide)
  obtain ⟨lo, hi', mi', b1, b2, b3, b4⟩ := bi_loop h (sp := sp) 40 turns 0 hi none (fun _ _ e => nomatch e) (by decide) (by decide) (by omega) (by omega) (by omega) (by rw [F_zero h]; exact h0) a4
  refine ⟨lo, ?_, b2, b3, b4⟩
  refine Eq.trans (run_eq (t := t_tick_by) (n := 5) (np := 2) (bor := false) rfl) ?_
  rw [show env0 5 false [drvD g t ls, .int sp] = [some (.pers, drvD g t ls), some (.pers, .int sp), none, none, none] from rfl]
  have w1 : w_tick_by_1 [some (.pers, drvD g t ls), some (.pers, .int sp), some (.pers, .int 1), none, none] = .nx [some (.pers, drvD g t ls), some (.pers, .int sp), some (.pers, .int hi), none, none] := a1
  have w0 : w_tick_by_0 [some (.pers, drvD g t ls), some (.pers, .int sp), some (.pers, .int hi), some (.pers, .int 0), none] = .nx [some (.pers, drvD g t ls), some (.pers, .int sp), some (.pers, .int hi'), some (.pers, .int lo), mi'] := b1
  unfold t_tick_by
  simp only [bd_ok, bd_ex, bd_bad, q_pure, q_optS, q_optN, sq_nx, sq_rt, sq_ex, sq_bad, q_seq, q_pass, of_ok, of_ex, of_bad, q_expr, q_if, q_ret, ret_val, ret_new, q_raise, q_var, sv_pers, sv_own, sv_bor, q_con, q_datV, q_datN, q_datS, sd_some, q_optRS, q_optRN, res_t, res_f, q_bin2, q_un1, q_persM, pr_val, pr_new, pr_slot, sp_own, q_mvM, mv_val, mv_new, mv_slot, sm_own, q_set, q_free, fr_none, fr_pers, fr_own, put_val, put_new, q_not, q_andB, q_orB, q_boolM, br_bool, q_andM, q_orM, q_notM, q_ifM, q_chn2, ch_bool, q_cons, q_nil, q_tup, q_lst, q_opd1, q_opd2, q_callM, q_callF, fr_ok, fr_ex, fr_bad, q_callB, ld_own, ld_bor, fb_ok, fb_ex, q_has, has_some, os_ok, ns_some, ms_own, ms_bor, q_st, mt_some, mu_own, mu_bor, q_mutV, q_ownT, ow_own, ow_bor, q_m1, q_m0, q_tgN, q_tg, q_tgR, to_some, tgT_tup, tgT_lst, tgC_cons, tgN_nil, q_for, q_map1, q_walk, so_list, so_tup, wo_list, wo_tup, e_add, e_sub, e_neg, e_lt, e_gt, e_le, e_ge, e_eq, e_ne, e_isN, e_isnN, e_isB, e_isnB, pk_some, e_ixL, e_ixT, e_lastL, e_lastT, e_part, e_intR, e_noPart, e_slice, e_slL, e_slT, q_par, q_par1, q_par2, po_val, po_new, nx_some, q_getM, q_getE, gate_some, go_int, dat_val, q_pop2, ow_dict, fin_nx, fin_rt, fin_ex, bor_t, bor_f, e_lenL, e_lenT, e_abs, e_min, e_max, e_int, e_intB, e_tupL, e_tupT, e_lstL, e_lstT, e_all, e_any, e_sum, e_isa, e_set0, e_set2, Int.reduceLE, Int.reduceLT, Int.reduceToNat, Int.reduceNeg, Int.le_refl, Int.toNat_zero, List.getElem?_cons_zero, List.getElem?_cons_succ, List.set_cons_zero, List.set_cons_succ, Option.bind_some, Bool.false_eq_true, if_true, if_false, ite_true, ite_false, reduceIte, decide_true, decide_false, Bool.not_true, Bool.not_false, List.map_cons, List.map_nil, List.any_cons, List.any_nil, Bool.or_false, Bool.or_true, Bool.true_or, Bool.false_or, Bool.and_true, Bool.true_and, Bool.false_and, Bool.and_false, w1, w0]
/-- the one tick of a spot -/
theorem F_inj {k n sp : Int} (hk : 0 ≤ k) (hn : 0 ≤ n) (k1 : Fv g t ls k ≤ sp) (k2 : sp < Fv g t ls (k + 1)) (n1 : Fv g t ls n ≤ sp) (n2 : sp < Fv g t ls (n + 1)) : k = n := by
  rcases Int.lt_trichotomy k n with c | c | c
  · have := F_mono h (m := k + 1) (n := n) (by omega) (by omega); omega
  · exact c
  · have := F_mono h (m := n + 1) (n := k) (by omega) (by omega); omega
end
end LW

namespace LW
open PySem PySem.Spec PyProof.Rows L2 DL
/-! ### levers added -/
/-! ### the lever that stands -/
/-! ### one of some -/
theorem ix2 {x y v : Int} (h0 : 0 ≤ v) (h1 : v < 2) : ∃ w, ixD (.list [.int x, .int y]) (.int v) = some (false, .int w) ∧ (w = x ∨ w = y) := by
  rw [e_ixL h0]
  have : v = 0 ∨ v = 1 := by omega
  rcases this with rfl | rfl
  · exact ⟨x, rfl, .inl rfl⟩
  · exact ⟨y, rfl, .inr rfl⟩
theorem ix3 {x y z v : Int} (h0 : 0 ≤ v) (h1 : v < 3) : ∃ w, ixD (.list [.int x, .int y, .int z]) (.int v) = some (false, .int w) ∧ (w = x ∨ w = y ∨ w = z) := by
  rw [e_ixL h0]
  have : v = 0 ∨ v = 1 ∨ v = 2 := by omega
  rcases this with rfl | rfl | rfl
  · exact ⟨x, rfl, .inl rfl⟩
  · exact ⟨y, rfl, .inr (.inl rfl)⟩
  · exact ⟨z, rfl, .inr (.inr rfl)⟩
/-! ### a drive drawn -/
structure Dw (ls : List (Int × Int)) (tick : Int) : Prop where
  t0 : 0 ≤ tick
  tl : tick ≤ 40 * ls.length
  hd : (ls = [] ∧ tick = 0) ∨ ∃ s r, ls = (0, s) :: r
  in_ : ∀ p ∈ ls, 0 ≤ p.1 ∧ p.1 < tick ∧ 1 ≤ p.2 ∧ p.2 ≤ 40
  up : ls.Pairwise fun p q => p.1 < q.1
def envD (y : PyData) (g : Int) (ls : List (Int × Int)) (tick : Int) : DEnv := [some (.bor, y), some (.pers, .int g), some (.own, .list (ls.map rowD)), some (.pers, .int tick), none]
theorem Dw.snoc {ls : List (Int × Int)} {tick s d : Int} (h : Dw ls tick) (hs : 1 ≤ s) (hs4 : s ≤ 40) (hd : 0 ≤ d) (hd3 : d < 30) : Dw (ls ++ [(tick, s)]) (tick + 1 + d) := by
  refine ⟨by have := h.t0; omega, by rw [List.length_append]; have := h.tl; show _ ≤ 40 * ((ls.length + 1 : Nat) : Int); omega, .inr ?_, fun p hp => ?_, ?_⟩
  · rcases h.hd with ⟨e, e2⟩ | ⟨s0, r, e⟩
    · subst e e2; exact ⟨s, [], rfl⟩
    · exact ⟨s0, r ++ [(tick, s)], by rw [e]; rfl⟩
  · rcases List.mem_append.mp hp with hp | hp
    · obtain ⟨a, b, c, d'⟩ := h.in_ p hp
      exact ⟨a, by omega, c, d'⟩
    · have : p = (tick, s) := by simpa using hp
      subst this
      exact ⟨h.t0, by dsimp only; omega, hs, hs4⟩
  · rw [List.pairwise_append]
    refine ⟨h.up, by simp, fun p hp q hq => ?_⟩
    have : q = (tick, s) := by simpa using hq
    subst this
    exact (h.in_ p hp).2.1
theorem drive_loop (g : Int) : ∀ (ds : List PyData) (ls : List (Int × Int)) (tick : Int) (y : PyData) (n : Int), ds.length + ls.length ≤ 5 → Dw ls tick → Bg n y → n + 10 * ds.length < 100000000 →
    ∃ ls' tick' y', loopS (tgN 4) lb__law_drive_0 [4] ds (envD y g ls tick) = .nx (envD y' g ls' tick') ∧ Dw ls' tick' ∧ ls'.length = ls.length + ds.length ∧ Bg (n + 10 * ds.length) y'
  | [], ls, tick, y, n, _, hD, hB, _ => ⟨ls, tick, y, rfl, hD, rfl, hB.mono (by simp)⟩
  | d :: ds, ls, tick, y, n, hl, hD, hB, hn => by
    rw [List.length_cons] at hl hn
    obtain ⟨v1, y1, e1, a1, a1', B1⟩ := take_ok hB (m := 5) (by decide) (by decide) (by omega)
    obtain ⟨v2, y2, e2, a2, a2', B2⟩ := take_ok B1 (m := 40) (by decide) (by decide) (by omega)
    obtain ⟨v3, y3, e3, a3, a3', B3⟩ := take_ok B2 (m := 3) (by decide) (by decide) (by omega)
    obtain ⟨w, ew, hw⟩ := ix3 (x := 1) (y := 1 + v1) (z := 1 + v2) a3 a3'
    obtain ⟨v4, y4, e4, a4, a4', B4⟩ := take_ok B3 (m := 2) (by decide) (by decide) (by omega)
    obtain ⟨u, eu, hu⟩ := ix2 (x := 3) (y := 30) a4 a4'
    obtain ⟨v5, y5, e5, a5, a5', B5⟩ := take_ok B4 (m := u) (by omega) (by omega) (by omega)
    have hD' := hD.snoc (s := w) (d := v5) (by omega) (by omega) a5 (by omega)
    obtain ⟨ls', tick', y', q1, q2, q3, q4⟩ := drive_loop g ds (ls ++ [(tick, w)]) (tick + 1 + v5) y5 (n + 1 + 1 + 1 + 1 + 1) (by rw [List.length_append]; show _ + (ls.length + 1) ≤ 5; omega) hD' B5 (by omega)
    have eA := appD_list (xs := ls.map rowD) (d := .tuple [.int tick, .int w]) (Nat.lt_of_lt_of_le (Nat.lt_succ_self _) (line20 (by rw [List.length_map]; omega)))
    have eb : lb__law_drive_0 [some (.bor, y), some (.pers, .int g), some (.own, .list (ls.map rowD)), some (.pers, .int tick), some (.pers, d)] = .nx [some (.bor, y5), some (.pers, .int g), some (.own, .list ((ls ++ [(tick, w)]).map rowD)), some (.pers, .int (tick + 1 + v5)), some (.pers, d)] := by
      unfold lb__law_drive_0
      simp only [bd_ok, bd_ex, bd_bad, q_pure, q_optS, q_optN, sq_nx, sq_rt, sq_ex, sq_bad, q_seq, q_pass, of_ok, of_ex, of_bad, q_expr, q_if, q_ret, ret_val, ret_new, q_raise, q_var, sv_pers, sv_own, sv_bor, q_con, q_datV, q_datN, q_datS, sd_some, q_optRS, q_optRN, res_t, res_f, q_bin2, q_un1, q_persM, pr_val, pr_new, pr_slot, sp_own, q_mvM, mv_val, mv_new, mv_slot, sm_own, q_set, q_free, fr_none, fr_pers, fr_own, put_val, put_new, q_not, q_andB, q_orB, q_boolM, br_bool, q_andM, q_orM, q_notM, q_ifM, q_chn2, ch_bool, q_cons, q_nil, q_tup, q_lst, q_opd1, q_opd2, q_callM, q_callF, fr_ok, fr_ex, fr_bad, q_callB, ld_own, ld_bor, fb_ok, fb_ex, q_has, has_some, os_ok, ns_some, ms_own, ms_bor, q_st, mt_some, mu_own, mu_bor, q_mutV, q_ownT, ow_own, ow_bor, q_m1, q_m0, q_tgN, q_tg, q_tgR, to_some, tgT_tup, tgT_lst, tgC_cons, tgN_nil, q_for, q_map1, q_walk, so_list, so_tup, wo_list, wo_tup, e_add, e_sub, e_neg, e_lt, e_gt, e_le, e_ge, e_eq, e_ne, e_isN, e_isnN, e_isB, e_isnB, pk_some, e_ixL, e_ixT, e_lastL, e_lastT, e_part, e_intR, e_noPart, e_slice, e_slL, e_slT, q_par, q_par1, q_par2, po_val, po_new, nx_some, q_getM, q_getE, gate_some, go_int, dat_val, q_pop2, ow_dict, fin_nx, fin_rt, fin_ex, bor_t, bor_f, e_lenL, e_lenT, e_abs, e_min, e_max, e_int, e_intB, e_tupL, e_tupT, e_lstL, e_lstT, e_all, e_any, e_sum, e_isa, e_set0, e_set2, Int.reduceLE, Int.reduceLT, Int.reduceToNat, Int.reduceNeg, Int.le_refl, Int.toNat_zero, List.getElem?_cons_zero, List.getElem?_cons_succ, List.set_cons_zero, List.set_cons_succ, Option.bind_some, Bool.false_eq_true, if_true, if_false, ite_true, ite_false, reduceIte, decide_true, decide_false, Bool.not_true, Bool.not_false, List.map_cons, List.map_nil, List.any_cons, List.any_nil, Bool.or_false, Bool.or_true, Bool.true_or, Bool.false_or, Bool.and_true, Bool.true_and, Bool.false_and, Bool.and_false, e1, e2, e3, ew, eA, e4, eu, e5, List.map_append, rowD]
    refine ⟨ls', tick', y', ?_, q2, by simp only [List.length_append, List.length_cons, List.length_nil] at q3 ⊢; omega, q4.mono (by rw [List.length_cons]; omega)⟩
    unfold loopS
    rw [show tgN 4 d (envD y g ls tick) = some [some (.bor, y), some (.pers, .int g), some (.own, .list (ls.map rowD)), some (.pers, .int tick), some (.pers, d)] from rfl]
    dsimp only
    rw [eb]
    exact q1
theorem law_drive_ok {n : Int} {y : PyData} (hB : Bg n y) (hn : n < 90000000) : ∃ g t ls y', f__law_drive [y] = .ok false (drvD g t ls) y' ∧ Dr g t ls ∧ ls.length ≤ 5 ∧ (∀ p ∈ ls, p.1 ≤ 1000) ∧ Bg (n + 100) y' := by
  obtain ⟨v1, y1, e1, a1, a1', B1⟩ := take_ok hB (m := 3) (by decide) (by decide) (by omega)
  obtain ⟨v2, y2, e2, a2, a2', B2⟩ := take_ok B1 (m := 6) (by decide) (by decide) (by omega)
  obtain ⟨v3, y3, e3, a3, a3', B3⟩ := take_ok B2 (m := 3) (by decide) (by decide) (by omega)
  obtain ⟨g, eg, hg⟩ := ix3 (x := 0) (y := v1) (z := v2) a3 a3'
  obtain ⟨v4, y4, e4, a4, a4', B4⟩ := take_ok B3 (m := 5) (by decide) (by decide) (by omega)
  obtain ⟨v5, y5, e5, a5, a5', B5⟩ := take_ok B4 (m := 2) (by decide) (by decide) (by omega)
  obtain ⟨c, ec, hc⟩ := ix2 (x := 0) (y := v4) a5 a5'
  have hl : (DL.upTo 0 (1 + c).toNat).length = (1 + c).toNat := by simp [DL.upTo]
  obtain ⟨ls, tick, y6, q1, q2, q3, q4⟩ := drive_loop g (DL.upTo 0 (1 + c).toNat) [] 0 y5 (n + 1 + 1 + 1 + 1 + 1) (by rw [hl]; show _ + 0 ≤ 5; omega) ⟨by decide, by simp, .inl ⟨rfl, rfl⟩, (fun p hp => nomatch hp), .nil⟩ B5 (by rw [hl]; omega)
  rw [hl] at q3 q4
  obtain ⟨v6, y7, e6, a6, a6', B6⟩ := take_ok q4 (m := 3) (by decide) (by decide) (by omega)
  obtain ⟨m, em, hm⟩ := ix3 (x := 3) (y := 10) (z := 50) a6 a6'
  obtain ⟨v7, y8, e7, a7, a7', B7⟩ := take_ok B6 (m := m) (by omega) (by omega) (by omega)
  have hlen : ls.length ≤ 5 := by rw [q3]; show 0 + _ ≤ 5; omega
  refine ⟨g, 1 + v7, ls, y8, ?_, ⟨⟨by omega, ?_, fun p hp => ?_, q2.up⟩, by omega, by omega, by omega, by omega⟩, hlen, fun p hp => ?_, B7.mono (by omega)⟩
  · refine Eq.trans (run_eq (t := t__law_drive) (n := 5) (np := 1) (bor := true) rfl) ?_
    rw [show env0 5 true [y] = [some (.bor, y), none, none, none, none] from rfl]
    have sm : small (1 + c) = true := by unfold small; rw [decide_eq_true (by omega), decide_eq_true (by omega)]; rfl
    have q1' : loopS (tgN 4) lb__law_drive_0 [4] (DL.upTo 0 (1 + c).toNat) [some (.bor, y5), some (.pers, .int g), some (.own, .list []), some (.pers, .int 0), none] = .nx (envD y6 g ls tick) := q1
    unfold t__law_drive l__law_drive_0
    simp only [bd_ok, bd_ex, bd_bad, q_pure, q_optS, q_optN, sq_nx, sq_rt, sq_ex, sq_bad, q_seq, q_pass, of_ok, of_ex, of_bad, q_expr, q_if, q_ret, ret_val, ret_new, q_raise, q_var, sv_pers, sv_own, sv_bor, q_con, q_datV, q_datN, q_datS, sd_some, q_optRS, q_optRN, res_t, res_f, q_bin2, q_un1, q_persM, pr_val, pr_new, pr_slot, sp_own, q_mvM, mv_val, mv_new, mv_slot, sm_own, q_set, q_free, fr_none, fr_pers, fr_own, put_val, put_new, q_not, q_andB, q_orB, q_boolM, br_bool, q_andM, q_orM, q_notM, q_ifM, q_chn2, ch_bool, q_cons, q_nil, q_tup, q_lst, q_opd1, q_opd2, q_callM, q_callF, fr_ok, fr_ex, fr_bad, q_callB, ld_own, ld_bor, fb_ok, fb_ex, q_has, has_some, os_ok, ns_some, ms_own, ms_bor, q_st, mt_some, mu_own, mu_bor, q_mutV, q_ownT, ow_own, ow_bor, q_m1, q_m0, q_tgN, q_tg, q_tgR, to_some, tgT_tup, tgT_lst, tgC_cons, tgN_nil, q_for, q_map1, q_walk, so_list, so_tup, wo_list, wo_tup, e_add, e_sub, e_neg, e_lt, e_gt, e_le, e_ge, e_eq, e_ne, e_isN, e_isnN, e_isB, e_isnB, pk_some, e_ixL, e_ixT, e_lastL, e_lastT, e_part, e_intR, e_noPart, e_slice, e_slL, e_slT, q_par, q_par1, q_par2, po_val, po_new, nx_some, q_getM, q_getE, gate_some, go_int, dat_val, q_pop2, ow_dict, fin_nx, fin_rt, fin_ex, bor_t, bor_f, e_lenL, e_lenT, e_abs, e_min, e_max, e_int, e_intB, e_tupL, e_tupT, e_lstL, e_lstT, e_all, e_any, e_sum, e_isa, e_set0, e_set2, Int.reduceLE, Int.reduceLT, Int.reduceToNat, Int.reduceNeg, Int.le_refl, Int.toNat_zero, List.getElem?_cons_zero, List.getElem?_cons_succ, List.set_cons_zero, List.set_cons_succ, Option.bind_some, Bool.false_eq_true, if_true, if_false, ite_true, ite_false, reduceIte, decide_true, decide_false, Bool.not_true, Bool.not_false, List.map_cons, List.map_nil, List.any_cons, List.any_nil, Bool.or_false, Bool.or_true, Bool.true_or, Bool.false_or, Bool.and_true, Bool.true_and, Bool.false_and, Bool.and_false, e1, e2, e3, eg, e4, e5, ec, e_range1 sm, q1', envD, e6, em, e7]
    rfl
  · rcases q2.hd with ⟨e, _⟩ | z
    · rw [e] at q3
      have : ([] : List (Int × Int)).length = 0 := rfl
      omega
    · exact z
  · obtain ⟨b1, b2, b3, b4⟩ := q2.in_ p hp
    have := q2.tl
    exact ⟨b1, by omega, b3, b4⟩
  · obtain ⟨b1, b2, b3, b4⟩ := q2.in_ p hp
    have := q2.tl
    omega
theorem F_one {t s n : Int} (hn : 0 ≤ n) : Fv 0 t [(0, s)] n = s * n := by
  unfold Fv
  rw [Int.zero_mul, Int.zero_add, Sv_one]
  by_cases h : 0 < n
  · rw [if_pos h, Int.sub_zero]
  · rw [if_neg h, show n = 0 by omega, Int.mul_zero]
theorem st_le : ∀ (ls : List (Int × Int)) (n d : Int), (∀ p ∈ ls, p.2 ≤ 40) → d ≤ 40 → st ls n d ≤ 40
  | [], _, _, _, h => h
  | (b, s) :: r, n, d, h, hd => by
    unfold st
    by_cases c : b ≤ n
    · rw [if_pos c]; exact st_le r n s (fun p hp => h p (List.mem_cons_of_mem _ hp)) (h _ List.mem_cons_self)
    · rw [if_neg c]; exact hd
theorem F_le {g t : Int} {ls : List (Int × Int)} (h : Dr g t ls) : ∀ k : Nat, k ≤ 100001 → Fv g t ls k ≤ k * 500045
  | 0, _ => by
    have := F_zero h
    show Fv g t ls 0 ≤ _
    rw [this]; decide
  | k + 1, hk => by
    have ih := F_le h k (by omega)
    have h1 := F_diff h (n := k) (by omega)
    have h2 := st_le ls k 0 (fun p hp => (h.in_ p hp).2.2.2) (by decide)
    have h3 : g * ((k : Int) / t) ≤ 5 * (k : Int) := Int.mul_le_mul h.g5 (Int.ediv_le_self _ (by omega)) (Int.ediv_nonneg (by omega) (by have := h.t1; omega)) (by decide)
    rw [show ((k + 1 : Nat) : Int) = (k : Int) + 1 by omega]
    omega
end LW

namespace LW
open PySem PySem.Spec PyProof.Rows L2 DL
def t_is_lane : SM := (seqS (retS (callF f_is_within (consM (persM (varM 0)) (consM (persM (conM (.int 0))) (consM (persM (conM (.int 19))) nilM))))) passS)
def f_is_lane : FSem := runF 1 1 false t_is_lane
def t_is_hole : SM := (seqS (ifS (orB (notB (boolM (callF f_is_lane (consM (persM (bin2 ixD (varM 0) (conM (.int 0)))) nilM)))) (notB (boolM (callF f_is_within (consM (persM (bin2 ixD (varM 0) (conM (.int 1)))) (consM (persM (conM (.int 0))) (consM (persM (conM (.int 20000))) nilM))))))) (seqS (retS (conM (.bool false))) passS) passS) (seqS (retS (callF f_is_within (consM (persM (bin2 ixD (varM 0) (conM (.int 2)))) (consM (persM (bin2 ixD (varM 0) (conM (.int 1)))) (consM (persM (conM (.int 20000))) nilM))))) passS))
def f_is_hole : FSem := runF 1 1 false t_is_hole
def lb_is_roll_0 : SM := (seqS (ifS (orB (boolM (bin2 geD (varM 2) (varM 3))) (andB (boolM (bin2 eqD (bin2 ixD (varM 2) (conM (.int 0))) (bin2 ixD (varM 3) (conM (.int 0))))) (boolM (bin2 ltD (bin2 ixD (varM 3) (conM (.int 1))) (bin2 addD (bin2 ixD (varM 2) (conM (.int 2))) (conM (.int 2))))))) (seqS (retS (conM (.bool false))) passS) passS) passS)
def l_is_roll_0 : SM := forS (mapM1 (consM (persM (varM 0)) (consM (persM (sliceM (varM 0) (part (conM (.int 1))) noPart)) nilM)) zip2O) (tgT (tgCons (tgN 2) (tgCons (tgN 3) tgNil))) lb_is_roll_0 [2, 3]
def ce_is_roll_0 : M D := persM (callF f_is_hole (consM (persM (varM 1)) nilM))
def c_is_roll_0 : M R := lcM (walkM (varM 0)) (tgN 1) yesM ce_is_roll_0 [1]
def t_is_roll : SM := (seqS (ifS (orB (notB (boolM (callF f_are_rows (consM (persM (varM 0)) (consM (persM (conM (.int 3))) (consM (persM (conM (.int 200))) nilM)))))) (notB (boolM (callM allD (opd1 c_is_roll_0))))) (seqS (retS (conM (.bool false))) passS) passS) (seqS l_is_roll_0 (seqS (retS (conM (.bool true))) passS)))
def f_is_roll : FSem := runF 4 1 false t_is_roll
def t_look_at_roll : SM := (seqS (ifS (notB (boolM (callF f_is_roll (consM (persM (varM 0)) nilM)))) (seqS (raiseS "NoRoll") passS) passS) passS)
def f_look_at_roll : FSem := runF 1 1 false t_look_at_roll
def ce_lane_of_0 : M D := persM (sliceM (varM 2) (part (conM (.int 1))) noPart)
def c_lane_of_0 : M R := lcM (walkM (varM 0)) (tgN 2) (boolM (bin2 eqD (bin2 ixD (varM 2) (conM (.int 0))) (varM 1))) ce_lane_of_0 [2]
def t_lane_of : SM := (seqS (retS c_lane_of_0) passS)
def f_lane_of : FSem := runF 3 2 false t_lane_of
def lb__law_roll_0 : SM := (seqS (setS 8 (bin2 addD (varM 8) (bin2 ixD (varM 3) (varM 5)))) passS)
def l__law_roll_0 : SM := forS (walkM (varM 3)) (tgN 5) lb__law_roll_0 [5]
def lb__law_roll_1 : SM := (seqS (setS 5 (bin2 ixD (varM 2) (callB 0 f__law_take (consM (persM (callM lenD (opd1 (varM 2)))) nilM)))) (seqS (setS 6 (ifM (boolM (bin2 inD (varM 5) (varM 3))) (bin2 ixD (bin2 ixD (bin2 ixD (varM 3) (varM 5)) (un1 negD (conM (.int 1)))) (conM (.int 2))) (un1 negD (conM (.int 2))))) (seqS (setS 7 (bin2 addD (bin2 addD (varM 6) (conM (.int 2))) (bin2 ixD (lstM (consM (persM (conM (.int 0))) (consM (persM (callB 0 f__law_take (consM (persM (conM (.int 4))) nilM))) (consM (persM (callB 0 f__law_take (consM (persM (conM (.int 40))) nilM))) nilM)))) (callB 0 f__law_take (consM (persM (conM (.int 3))) nilM))))) (seqS (setS 6 (bin2 addD (varM 7) (callB 0 f__law_take (consM (persM (bin2 ixD (lstM (consM (persM (conM (.int 1))) (consM (persM (conM (.int 6))) (consM (persM (conM (.int 60))) nilM)))) (callB 0 f__law_take (consM (persM (conM (.int 3))) nilM)))) nilM)))) (seqS (stS 3 (varM 5) (bin2 addD (getM 3 (varM 5) (lstM nilM)) (lstM (consM (persM (tupM (consM (persM (varM 5)) (consM (persM (varM 7)) (consM (persM (varM 6)) nilM))))) nilM)))) passS)))))
def l__law_roll_1 : SM := forS (mapM1 (consM (persM (callB 0 f__law_take (consM (persM (bin2 addD (varM 1) (conM (.int 1)))) nilM))) nilM) range1O) (tgN 4) lb__law_roll_1 [4, 5, 6, 7]
def t__law_roll : SM := (seqS (setS 3 dct0) (seqS l__law_roll_1 (seqS (setS 8 (lstM nilM)) (seqS l__law_roll_0 (seqS (retS (callM tupleD (opd1 (callM sortD (opd1 (varM 8)))))) passS)))))
def f__law_roll : FSem := runF 9 3 true t__law_roll
end LW

namespace LW
open PySem PySem.Spec PyProof.Rows L2 DL
/-! ### rolls -/
abbrev Ho := Int × Int × Int
def gap (a b : Ho) : Prop := a.1 < b.1 ∨ (a.1 = b.1 ∧ a.2.2 + 2 ≤ b.2.1)
structure RollOk (r : List Ho) : Prop where
  len : r.length ≤ 200
  in_ : ∀ h ∈ r, 0 ≤ h.1 ∧ h.1 ≤ 19 ∧ 0 ≤ h.2.1 ∧ h.2.1 ≤ h.2.2 ∧ h.2.2 ≤ 20000
  up : r.Pairwise gap
theorem ho_0 (h : Ho) : ixD (Pln.e h) (.int 0) = some (false, .int h.1) := rfl
theorem ho_1 (h : Ho) : ixD (Pln.e h) (.int 1) = some (false, .int h.2.1) := rfl
theorem ho_2 (h : Ho) : ixD (Pln.e h) (.int 2) = some (false, .int h.2.2) := rfl
theorem ho_cut (h : Ho) : sliceD (Pln.e h) (some 1) none = some (false, Pln.e h.2) := by
  show some (false, PyData.tuple (cutD _ (some 1) none)) = _
  rfl
theorem is_lane_g (d : PyData) : f_is_lane [d] = .ok false (.bool (inI d 0 19)) .none := by
  refine Eq.trans (run_eq (t := t_is_lane) (n := 1) (np := 1) (bor := false) rfl) ?_
  rw [show env0 1 false [d] = [some (.pers, d)] from rfl]
  unfold t_is_lane
  simp only [bd_ok, bd_ex, bd_bad, q_pure, q_optS, q_optN, sq_nx, sq_rt, sq_ex, sq_bad, q_seq, q_pass, of_ok, of_ex, of_bad, q_expr, q_if, q_ret, ret_val, ret_new, q_raise, q_var, sv_pers, sv_own, sv_bor, q_con, q_datV, q_datN, q_datS, sd_some, q_optRS, q_optRN, res_t, res_f, q_bin2, q_un1, q_persM, pr_val, pr_new, pr_slot, sp_own, q_mvM, mv_val, mv_new, mv_slot, sm_own, q_set, q_free, fr_none, fr_pers, fr_own, put_val, put_new, q_not, q_andB, q_orB, q_boolM, br_bool, q_andM, q_orM, q_notM, q_ifM, q_chn2, ch_bool, q_cons, q_nil, q_tup, q_lst, q_opd1, q_opd2, q_callM, q_callF, fr_ok, fr_ex, fr_bad, q_callB, ld_own, ld_bor, fb_ok, fb_ex, q_has, has_some, os_ok, ns_some, ms_own, ms_bor, q_st, mt_some, mu_own, mu_bor, q_mutV, q_ownT, ow_own, ow_bor, q_m1, q_m0, q_tgN, q_tg, q_tgR, to_some, tgT_tup, tgT_lst, tgC_cons, tgN_nil, q_for, q_map1, q_walk, so_list, so_tup, wo_list, wo_tup, e_add, e_sub, e_neg, e_lt, e_gt, e_le, e_ge, e_eq, e_ne, e_isN, e_isnN, e_isB, e_isnB, pk_some, e_ixL, e_ixT, e_lastL, e_lastT, e_part, e_intR, e_noPart, e_slice, e_slL, e_slT, q_par, q_par1, q_par2, po_val, po_new, nx_some, q_getM, q_getE, gate_some, go_int, dat_val, q_pop2, ow_dict, fin_nx, fin_rt, fin_ex, bor_t, bor_f, e_lenL, e_lenT, e_abs, e_min, e_max, e_int, e_intB, e_tupL, e_tupT, e_lstL, e_lstT, e_all, e_any, e_sum, e_isa, e_set0, e_set2, Int.reduceLE, Int.reduceLT, Int.reduceToNat, Int.reduceNeg, Int.le_refl, Int.toNat_zero, List.getElem?_cons_zero, List.getElem?_cons_succ, List.set_cons_zero, List.set_cons_succ, Option.bind_some, Bool.false_eq_true, if_true, if_false, ite_true, ite_false, reduceIte, decide_true, decide_false, Bool.not_true, Bool.not_false, List.map_cons, List.map_nil, List.any_cons, List.any_nil, Bool.or_false, Bool.or_true, Bool.true_or, Bool.false_or, Bool.and_true, Bool.true_and, Bool.false_and, Bool.and_false, is_within_g]
theorem inI_true {i lo hi : Int} (h : lo ≤ i) (h' : i ≤ hi) : inI (.int i) lo hi = true := by
  show (decide (lo ≤ i) && decide (i ≤ hi)) = true
  rw [decide_eq_true h, decide_eq_true h']; rfl
theorem is_hole_ok {h : Ho} (a0 : 0 ≤ h.1) (a1 : h.1 ≤ 19) (b0 : 0 ≤ h.2.1) (c0 : h.2.1 ≤ h.2.2) (c1 : h.2.2 ≤ 20000) : f_is_hole [Pln.e h] = .ok false (.bool true) .none := by
  refine Eq.trans (run_eq (t := t_is_hole) (n := 1) (np := 1) (bor := false) rfl) ?_
  rw [show env0 1 false [Pln.e h] = [some (.pers, Pln.e h)] from rfl]
  unfold t_is_hole
  simp only [bd_ok, bd_ex, bd_bad, q_pure, q_optS, q_optN, sq_nx, sq_rt, sq_ex, sq_bad, q_seq, q_pass, of_ok, of_ex, of_bad, q_expr, q_if, q_ret, ret_val, ret_new, q_raise, q_var, sv_pers, sv_own, sv_bor, q_con, q_datV, q_datN, q_datS, sd_some, q_optRS, q_optRN, res_t, res_f, q_bin2, q_un1, q_persM, pr_val, pr_new, pr_slot, sp_own, q_mvM, mv_val, mv_new, mv_slot, sm_own, q_set, q_free, fr_none, fr_pers, fr_own, put_val, put_new, q_not, q_andB, q_orB, q_boolM, br_bool, q_andM, q_orM, q_notM, q_ifM, q_chn2, ch_bool, q_cons, q_nil, q_tup, q_lst, q_opd1, q_opd2, q_callM, q_callF, fr_ok, fr_ex, fr_bad, q_callB, ld_own, ld_bor, fb_ok, fb_ex, q_has, has_some, os_ok, ns_some, ms_own, ms_bor, q_st, mt_some, mu_own, mu_bor, q_mutV, q_ownT, ow_own, ow_bor, q_m1, q_m0, q_tgN, q_tg, q_tgR, to_some, tgT_tup, tgT_lst, tgC_cons, tgN_nil, q_for, q_map1, q_walk, so_list, so_tup, wo_list, wo_tup, e_add, e_sub, e_neg, e_lt, e_gt, e_le, e_ge, e_eq, e_ne, e_isN, e_isnN, e_isB, e_isnB, pk_some, e_ixL, e_ixT, e_lastL, e_lastT, e_part, e_intR, e_noPart, e_slice, e_slL, e_slT, q_par, q_par1, q_par2, po_val, po_new, nx_some, q_getM, q_getE, gate_some, go_int, dat_val, q_pop2, ow_dict, fin_nx, fin_rt, fin_ex, bor_t, bor_f, e_lenL, e_lenT, e_abs, e_min, e_max, e_int, e_intB, e_tupL, e_tupT, e_lstL, e_lstT, e_all, e_any, e_sum, e_isa, e_set0, e_set2, Int.reduceLE, Int.reduceLT, Int.reduceToNat, Int.reduceNeg, Int.le_refl, Int.toNat_zero, List.getElem?_cons_zero, List.getElem?_cons_succ, List.set_cons_zero, List.set_cons_succ, Option.bind_some, Bool.false_eq_true, if_true, if_false, ite_true, ite_false, reduceIte, decide_true, decide_false, Bool.not_true, Bool.not_false, List.map_cons, List.map_nil, List.any_cons, List.any_nil, Bool.or_false, Bool.or_true, Bool.true_or, Bool.false_or, Bool.and_true, Bool.true_and, Bool.false_and, Bool.and_false, ho_0, ho_1, ho_2, is_lane_g, inI_true a0 a1, within_true b0 (show h.2.1 ≤ 20000 by omega), within_true c0 c1]
theorem zip_gap : ∀ {r : List Ho}, r.Pairwise gap → ∀ d ∈ List.zipWith (fun x y => PyData.tuple [x, y]) (r.map Pln.e) ((r.map Pln.e).drop 1), ∃ p q : Ho, d = .tuple [Pln.e p, Pln.e q] ∧ gap p q ∧ p ∈ r
  | [], _, d, h => by cases h
  | [p], _, d, h => by cases h
  | p :: q :: r, up, d, h => by
    obtain ⟨a, t⟩ := List.pairwise_cons.mp up
    rcases List.mem_cons.mp h with rfl | h
    · exact ⟨p, q, rfl, a q List.mem_cons_self, List.mem_cons_self⟩
    · obtain ⟨p', q', e, g, m⟩ := zip_gap t d h
      exact ⟨p', q', e, g, List.mem_cons_of_mem _ m⟩
theorem loop_is_roll {x : PyData} : ∀ ds : List PyData, (∀ d ∈ ds, ∃ p q : Ho, d = .tuple [Pln.e p, Pln.e q] ∧ gap p q ∧ p.2.1 ≤ p.2.2) →
    loopS (tgT (tgCons (tgN 2) (tgCons (tgN 3) tgNil))) lb_is_roll_0 [2, 3] ds [some (.pers, x), none, none, none] = .nx [some (.pers, x), none, none, none]
  | [], _ => rfl
  | d :: ds, h => by
    obtain ⟨p, q, rfl, g, le⟩ := h d List.mem_cons_self
    unfold loopS
    rw [show tgT (tgCons (tgN 2) (tgCons (tgN 3) tgNil)) (.tuple [Pln.e p, Pln.e q]) [some (.pers, x), none, none, none] = some [some (.pers, x), none, some (.pers, Pln.e p), some (.pers, Pln.e q)] from rfl]
    have lt : Pln.lt p q := by
      show p.1 < q.1 ∨ (p.1 = q.1 ∧ (p.2.1 < q.2.1 ∨ (p.2.1 = q.2.1 ∧ p.2.2 < q.2.2)))
      unfold gap at g; omega
    have eb : lb_is_roll_0 [some (.pers, x), none, some (.pers, Pln.e p), some (.pers, Pln.e q)] = .nx [some (.pers, x), none, some (.pers, Pln.e p), some (.pers, Pln.e q)] := by
      unfold lb_is_roll_0
      by_cases c : p.1 = q.1
      · have : ¬ q.2.1 < p.2.2 + 2 := by unfold gap at g; omega
        simp only [bd_ok, bd_ex, bd_bad, q_pure, q_optS, q_optN, sq_nx, sq_rt, sq_ex, sq_bad, q_seq, q_pass, of_ok, of_ex, of_bad, q_expr, q_if, q_ret, ret_val, ret_new, q_raise, q_var, sv_pers, sv_own, sv_bor, q_con, q_datV, q_datN, q_datS, sd_some, q_optRS, q_optRN, res_t, res_f, q_bin2, q_un1, q_persM, pr_val, pr_new, pr_slot, sp_own, q_mvM, mv_val, mv_new, mv_slot, sm_own, q_set, q_free, fr_none, fr_pers, fr_own, put_val, put_new, q_not, q_andB, q_orB, q_boolM, br_bool, q_andM, q_orM, q_notM, q_ifM, q_chn2, ch_bool, q_cons, q_nil, q_tup, q_lst, q_opd1, q_opd2, q_callM, q_callF, fr_ok, fr_ex, fr_bad, q_callB, ld_own, ld_bor, fb_ok, fb_ex, q_has, has_some, os_ok, ns_some, ms_own, ms_bor, q_st, mt_some, mu_own, mu_bor, q_mutV, q_ownT, ow_own, ow_bor, q_m1, q_m0, q_tgN, q_tg, q_tgR, to_some, tgT_tup, tgT_lst, tgC_cons, tgN_nil, q_for, q_map1, q_walk, so_list, so_tup, wo_list, wo_tup, e_add, e_sub, e_neg, e_lt, e_gt, e_le, e_ge, e_eq, e_ne, e_isN, e_isnN, e_isB, e_isnB, pk_some, e_ixL, e_ixT, e_lastL, e_lastT, e_part, e_intR, e_noPart, e_slice, e_slL, e_slT, q_par, q_par1, q_par2, po_val, po_new, nx_some, q_getM, q_getE, gate_some, go_int, dat_val, q_pop2, ow_dict, fin_nx, fin_rt, fin_ex, bor_t, bor_f, e_lenL, e_lenT, e_abs, e_min, e_max, e_int, e_intB, e_tupL, e_tupT, e_lstL, e_lstT, e_all, e_any, e_sum, e_isa, e_set0, e_set2, Int.reduceLE, Int.reduceLT, Int.reduceToNat, Int.reduceNeg, Int.le_refl, Int.toNat_zero, List.getElem?_cons_zero, List.getElem?_cons_succ, List.set_cons_zero, List.set_cons_succ, Option.bind_some, Bool.false_eq_true, if_true, if_false, ite_true, ite_false, reduceIte, decide_true, decide_false, Bool.not_true, Bool.not_false, List.map_cons, List.map_nil, List.any_cons, List.any_nil, Bool.or_false, Bool.or_true, Bool.true_or, Bool.false_or, Bool.and_true, Bool.true_and, Bool.false_and, Bool.and_false, geD_as, lt, ho_0, ho_1, ho_2, c, this]
      · simp only [bd_ok, bd_ex, bd_bad, q_pure, q_optS, q_optN, sq_nx, sq_rt, sq_ex, sq_bad, q_seq, q_pass, of_ok, of_ex, of_bad, q_expr, q_if, q_ret, ret_val, ret_new, q_raise, q_var, sv_pers, sv_own, sv_bor, q_con, q_datV, q_datN, q_datS, sd_some, q_optRS, q_optRN, res_t, res_f, q_bin2, q_un1, q_persM, pr_val, pr_new, pr_slot, sp_own, q_mvM, mv_val, mv_new, mv_slot, sm_own, q_set, q_free, fr_none, fr_pers, fr_own, put_val, put_new, q_not, q_andB, q_orB, q_boolM, br_bool, q_andM, q_orM, q_notM, q_ifM, q_chn2, ch_bool, q_cons, q_nil, q_tup, q_lst, q_opd1, q_opd2, q_callM, q_callF, fr_ok, fr_ex, fr_bad, q_callB, ld_own, ld_bor, fb_ok, fb_ex, q_has, has_some, os_ok, ns_some, ms_own, ms_bor, q_st, mt_some, mu_own, mu_bor, q_mutV, q_ownT, ow_own, ow_bor, q_m1, q_m0, q_tgN, q_tg, q_tgR, to_some, tgT_tup, tgT_lst, tgC_cons, tgN_nil, q_for, q_map1, q_walk, so_list, so_tup, wo_list, wo_tup, e_add, e_sub, e_neg, e_lt, e_gt, e_le, e_ge, e_eq, e_ne, e_isN, e_isnN, e_isB, e_isnB, pk_some, e_ixL, e_ixT, e_lastL, e_lastT, e_part, e_intR, e_noPart, e_slice, e_slL, e_slT, q_par, q_par1, q_par2, po_val, po_new, nx_some, q_getM, q_getE, gate_some, go_int, dat_val, q_pop2, ow_dict, fin_nx, fin_rt, fin_ex, bor_t, bor_f, e_lenL, e_lenT, e_abs, e_min, e_max, e_int, e_intB, e_tupL, e_tupT, e_lstL, e_lstT, e_all, e_any, e_sum, e_isa, e_set0, e_set2, Int.reduceLE, Int.reduceLT, Int.reduceToNat, Int.reduceNeg, Int.le_refl, Int.toNat_zero, List.getElem?_cons_zero, List.getElem?_cons_succ, List.set_cons_zero, List.set_cons_succ, Option.bind_some, Bool.false_eq_true, if_true, if_false, ite_true, ite_false, reduceIte, decide_true, decide_false, Bool.not_true, Bool.not_false, List.map_cons, List.map_nil, List.any_cons, List.any_nil, Bool.or_false, Bool.or_true, Bool.true_or, Bool.false_or, Bool.and_true, Bool.true_and, Bool.false_and, Bool.and_false, geD_as, lt, ho_0, ho_1, ho_2, c]
    dsimp only
    rw [eb]
    exact loop_is_roll ds fun d hd => h d (List.mem_cons_of_mem _ hd)
theorem is_roll_ok {r : List Ho} (h : RollOk r) : f_is_roll [tpD r] = .ok false (.bool true) .none := by
  refine Eq.trans (run_eq (t := t_is_roll) (n := 4) (np := 1) (bor := false) rfl) ?_
  rw [show env0 4 false [tpD r] = [some (.pers, tpD r), none, none, none] from rfl]
  have hl := h.len
  have hr : f_are_rows [tpD r, .int 3, .int 200] = .ok false (.bool true) .none := are_rows_ok (by rw [List.length_map]; omega) (line20 (by rw [List.length_map]; omega)) fun d hd => by
    obtain ⟨n, _, rfl⟩ := List.mem_map.mp hd
    exact ⟨_, rfl, rfl⟩
  have h0 : c_is_roll_0 [some (.pers, tpD r), none, none, none] = .ok (.new (.list (r.map fun _ => .bool true))) [some (.pers, tpD r), none, none, none] := by
    refine lcm_enc Pln.e r (fun _ => .bool true) (by simp only [bd_ok, bd_ex, bd_bad, q_pure, q_optS, q_optN, sq_nx, sq_rt, sq_ex, sq_bad, q_seq, q_pass, of_ok, of_ex, of_bad, q_expr, q_if, q_ret, ret_val, ret_new, q_raise, q_var, sv_pers, sv_own, sv_bor, q_con, q_datV, q_datN, q_datS, sd_some, q_optRS, q_optRN, res_t, res_f, q_bin2, q_un1, q_persM, pr_val, pr_new, pr_slot, sp_own, q_mvM, mv_val, mv_new, mv_slot, sm_own, q_set, q_free, fr_none, fr_pers, fr_own, put_val, put_new, q_not, q_andB, q_orB, q_boolM, br_bool, q_andM, q_orM, q_notM, q_ifM, q_chn2, ch_bool, q_cons, q_nil, q_tup, q_lst, q_opd1, q_opd2, q_callM, q_callF, fr_ok, fr_ex, fr_bad, q_callB, ld_own, ld_bor, fb_ok, fb_ex, q_has, has_some, os_ok, ns_some, ms_own, ms_bor, q_st, mt_some, mu_own, mu_bor, q_mutV, q_ownT, ow_own, ow_bor, q_m1, q_m0, q_tgN, q_tg, q_tgR, to_some, tgT_tup, tgT_lst, tgC_cons, tgN_nil, q_for, q_map1, q_walk, so_list, so_tup, wo_list, wo_tup, e_add, e_sub, e_neg, e_lt, e_gt, e_le, e_ge, e_eq, e_ne, e_isN, e_isnN, e_isB, e_isnB, pk_some, e_ixL, e_ixT, e_lastL, e_lastT, e_part, e_intR, e_noPart, e_slice, e_slL, e_slT, q_par, q_par1, q_par2, po_val, po_new, nx_some, q_getM, q_getE, gate_some, go_int, dat_val, q_pop2, ow_dict, fin_nx, fin_rt, fin_ex, bor_t, bor_f, e_lenL, e_lenT, e_abs, e_min, e_max, e_int, e_intB, e_tupL, e_tupT, e_lstL, e_lstT, e_all, e_any, e_sum, e_isa, e_set0, e_set2, Int.reduceLE, Int.reduceLT, Int.reduceToNat, Int.reduceNeg, Int.le_refl, Int.toNat_zero, List.getElem?_cons_zero, List.getElem?_cons_succ, List.set_cons_zero, List.set_cons_succ, Option.bind_some, Bool.false_eq_true, if_true, if_false, ite_true, ite_false, reduceIte, decide_true, decide_false, Bool.not_true, Bool.not_false, List.map_cons, List.map_nil, List.any_cons, List.any_nil, Bool.or_false, Bool.or_true, Bool.true_or, Bool.false_or, Bool.and_true, Bool.true_and, Bool.false_and, Bool.and_false, show walkO (tpD r) = some (r.map Pln.e) from rfl]) rfl (line20 (by omega)) fun n hn => ?_
    obtain ⟨i1, i2, i3, i4, i5⟩ := h.in_ n hn
    refine ⟨[some (.pers, tpD r), some (.pers, Pln.e n), none, none], [some (.pers, tpD r), some (.pers, Pln.e n), none, none], rfl, ?_, rfl⟩
    unfold ce_is_roll_0
    simp only [bd_ok, bd_ex, bd_bad, q_pure, q_optS, q_optN, sq_nx, sq_rt, sq_ex, sq_bad, q_seq, q_pass, of_ok, of_ex, of_bad, q_expr, q_if, q_ret, ret_val, ret_new, q_raise, q_var, sv_pers, sv_own, sv_bor, q_con, q_datV, q_datN, q_datS, sd_some, q_optRS, q_optRN, res_t, res_f, q_bin2, q_un1, q_persM, pr_val, pr_new, pr_slot, sp_own, q_mvM, mv_val, mv_new, mv_slot, sm_own, q_set, q_free, fr_none, fr_pers, fr_own, put_val, put_new, q_not, q_andB, q_orB, q_boolM, br_bool, q_andM, q_orM, q_notM, q_ifM, q_chn2, ch_bool, q_cons, q_nil, q_tup, q_lst, q_opd1, q_opd2, q_callM, q_callF, fr_ok, fr_ex, fr_bad, q_callB, ld_own, ld_bor, fb_ok, fb_ex, q_has, has_some, os_ok, ns_some, ms_own, ms_bor, q_st, mt_some, mu_own, mu_bor, q_mutV, q_ownT, ow_own, ow_bor, q_m1, q_m0, q_tgN, q_tg, q_tgR, to_some, tgT_tup, tgT_lst, tgC_cons, tgN_nil, q_for, q_map1, q_walk, so_list, so_tup, wo_list, wo_tup, e_add, e_sub, e_neg, e_lt, e_gt, e_le, e_ge, e_eq, e_ne, e_isN, e_isnN, e_isB, e_isnB, pk_some, e_ixL, e_ixT, e_lastL, e_lastT, e_part, e_intR, e_noPart, e_slice, e_slL, e_slT, q_par, q_par1, q_par2, po_val, po_new, nx_some, q_getM, q_getE, gate_some, go_int, dat_val, q_pop2, ow_dict, fin_nx, fin_rt, fin_ex, bor_t, bor_f, e_lenL, e_lenT, e_abs, e_min, e_max, e_int, e_intB, e_tupL, e_tupT, e_lstL, e_lstT, e_all, e_any, e_sum, e_isa, e_set0, e_set2, Int.reduceLE, Int.reduceLT, Int.reduceToNat, Int.reduceNeg, Int.le_refl, Int.toNat_zero, List.getElem?_cons_zero, List.getElem?_cons_succ, List.set_cons_zero, List.set_cons_succ, Option.bind_some, Bool.false_eq_true, if_true, if_false, ite_true, ite_false, reduceIte, decide_true, decide_false, Bool.not_true, Bool.not_false, List.map_cons, List.map_nil, List.any_cons, List.any_nil, Bool.or_false, Bool.or_true, Bool.true_or, Bool.false_or, Bool.and_true, Bool.true_and, Bool.false_and, Bool.and_false, is_hole_ok i1 i2 i3 i4 i5]
  have hz := loop_is_roll (x := tpD r) (List.zipWith (fun x y => PyData.tuple [x, y]) (r.map Pln.e) ((r.map Pln.e).drop 1)) fun d hd => by
    obtain ⟨p, q, e, g, m⟩ := zip_gap h.up d hd
    exact ⟨p, q, e, g, (h.in_ p m).2.2.2.1⟩
  unfold t_is_roll l_is_roll_0
  simp only [bd_ok, bd_ex, bd_bad, q_pure, q_optS, q_optN, sq_nx, sq_rt, sq_ex, sq_bad, q_seq, q_pass, of_ok, of_ex, of_bad, q_expr, q_if, q_ret, ret_val, ret_new, q_raise, q_var, sv_pers, sv_own, sv_bor, q_con, q_datV, q_datN, q_datS, sd_some, q_optRS, q_optRN, res_t, res_f, q_bin2, q_un1, q_persM, pr_val, pr_new, pr_slot, sp_own, q_mvM, mv_val, mv_new, mv_slot, sm_own, q_set, q_free, fr_none, fr_pers, fr_own, put_val, put_new, q_not, q_andB, q_orB, q_boolM, br_bool, q_andM, q_orM, q_notM, q_ifM, q_chn2, ch_bool, q_cons, q_nil, q_tup, q_lst, q_opd1, q_opd2, q_callM, q_callF, fr_ok, fr_ex, fr_bad, q_callB, ld_own, ld_bor, fb_ok, fb_ex, q_has, has_some, os_ok, ns_some, ms_own, ms_bor, q_st, mt_some, mu_own, mu_bor, q_mutV, q_ownT, ow_own, ow_bor, q_m1, q_m0, q_tgN, q_tg, q_tgR, to_some, tgT_tup, tgT_lst, tgC_cons, tgN_nil, q_for, q_map1, q_walk, so_list, so_tup, wo_list, wo_tup, e_add, e_sub, e_neg, e_lt, e_gt, e_le, e_ge, e_eq, e_ne, e_isN, e_isnN, e_isB, e_isnB, pk_some, e_ixL, e_ixT, e_lastL, e_lastT, e_part, e_intR, e_noPart, e_slice, e_slL, e_slT, q_par, q_par1, q_par2, po_val, po_new, nx_some, q_getM, q_getE, gate_some, go_int, dat_val, q_pop2, ow_dict, fin_nx, fin_rt, fin_ex, bor_t, bor_f, e_lenL, e_lenT, e_abs, e_min, e_max, e_int, e_intB, e_tupL, e_tupT, e_lstL, e_lstT, e_all, e_any, e_sum, e_isa, e_set0, e_set2, Int.reduceLE, Int.reduceLT, Int.reduceToNat, Int.reduceNeg, Int.le_refl, Int.toNat_zero, List.getElem?_cons_zero, List.getElem?_cons_succ, List.set_cons_zero, List.set_cons_succ, Option.bind_some, Bool.false_eq_true, if_true, if_false, ite_true, ite_false, reduceIte, decide_true, decide_false, Bool.not_true, Bool.not_false, List.map_cons, List.map_nil, List.any_cons, List.any_nil, Bool.or_false, Bool.or_true, Bool.true_or, Bool.false_or, Bool.and_true, Bool.true_and, Bool.false_and, Bool.and_false, h0, e_allT, hr, show ∀ l h, sliceD (tpD r) l h = some (false, .tuple (cutD (r.map Pln.e) l h)) from fun _ _ => rfl, cut_from, e_zip2 (show seqO (tpD r) = some (r.map Pln.e) from rfl) (so_tup), hz]
theorem look_at_roll_ok {r : List Ho} (h : RollOk r) : f_look_at_roll [tpD r] = .ok false .none .none := by
  refine Eq.trans (run_eq (t := t_look_at_roll) (n := 1) (np := 1) (bor := false) rfl) ?_
  rw [show env0 1 false [tpD r] = [some (.pers, tpD r)] from rfl]
  unfold t_look_at_roll
  simp only [bd_ok, bd_ex, bd_bad, q_pure, q_optS, q_optN, sq_nx, sq_rt, sq_ex, sq_bad, q_seq, q_pass, of_ok, of_ex, of_bad, q_expr, q_if, q_ret, ret_val, ret_new, q_raise, q_var, sv_pers, sv_own, sv_bor, q_con, q_datV, q_datN, q_datS, sd_some, q_optRS, q_optRN, res_t, res_f, q_bin2, q_un1, q_persM, pr_val, pr_new, pr_slot, sp_own, q_mvM, mv_val, mv_new, mv_slot, sm_own, q_set, q_free, fr_none, fr_pers, fr_own, put_val, put_new, q_not, q_andB, q_orB, q_boolM, br_bool, q_andM, q_orM, q_notM, q_ifM, q_chn2, ch_bool, q_cons, q_nil, q_tup, q_lst, q_opd1, q_opd2, q_callM, q_callF, fr_ok, fr_ex, fr_bad, q_callB, ld_own, ld_bor, fb_ok, fb_ex, q_has, has_some, os_ok, ns_some, ms_own, ms_bor, q_st, mt_some, mu_own, mu_bor, q_mutV, q_ownT, ow_own, ow_bor, q_m1, q_m0, q_tgN, q_tg, q_tgR, to_some, tgT_tup, tgT_lst, tgC_cons, tgN_nil, q_for, q_map1, q_walk, so_list, so_tup, wo_list, wo_tup, e_add, e_sub, e_neg, e_lt, e_gt, e_le, e_ge, e_eq, e_ne, e_isN, e_isnN, e_isB, e_isnB, pk_some, e_ixL, e_ixT, e_lastL, e_lastT, e_part, e_intR, e_noPart, e_slice, e_slL, e_slT, q_par, q_par1, q_par2, po_val, po_new, nx_some, q_getM, q_getE, gate_some, go_int, dat_val, q_pop2, ow_dict, fin_nx, fin_rt, fin_ex, bor_t, bor_f, e_lenL, e_lenT, e_abs, e_min, e_max, e_int, e_intB, e_tupL, e_tupT, e_lstL, e_lstT, e_all, e_any, e_sum, e_isa, e_set0, e_set2, Int.reduceLE, Int.reduceLT, Int.reduceToNat, Int.reduceNeg, Int.le_refl, Int.toNat_zero, List.getElem?_cons_zero, List.getElem?_cons_succ, List.set_cons_zero, List.set_cons_succ, Option.bind_some, Bool.false_eq_true, if_true, if_false, ite_true, ite_false, reduceIte, decide_true, decide_false, Bool.not_true, Bool.not_false, List.map_cons, List.map_nil, List.any_cons, List.any_nil, Bool.or_false, Bool.or_true, Bool.true_or, Bool.false_or, Bool.and_true, Bool.true_and, Bool.false_and, Bool.and_false, is_roll_ok h]
def laneL (r : List Ho) (lane : Int) : List (Int × Int) := (r.filter fun h => decide (h.1 = lane)).map (·.2)
theorem lane_of_ok {r : List Ho} {lane : Int} (h : r.length ≤ 1000) : f_lane_of [tpD r, .int lane] = .ok true (lsD (laneL r lane)) .none := by
  refine Eq.trans (run_eq (t := t_lane_of) (n := 3) (np := 2) (bor := false) rfl) ?_
  rw [show env0 3 false [tpD r, .int lane] = [some (.pers, tpD r), some (.pers, .int lane), none] from rfl]
  have h0 : c_lane_of_0 [some (.pers, tpD r), some (.pers, .int lane), none] = .ok (.new (lsD (laneL r lane))) [some (.pers, tpD r), some (.pers, .int lane), none] := by
    unfold lsD laneL
    rw [List.map_map]
    refine lcm_encF Pln.e r (fun h => decide (h.1 = lane)) (Pln.e ∘ (·.2)) (by simp only [bd_ok, bd_ex, bd_bad, q_pure, q_optS, q_optN, sq_nx, sq_rt, sq_ex, sq_bad, q_seq, q_pass, of_ok, of_ex, of_bad, q_expr, q_if, q_ret, ret_val, ret_new, q_raise, q_var, sv_pers, sv_own, sv_bor, q_con, q_datV, q_datN, q_datS, sd_some, q_optRS, q_optRN, res_t, res_f, q_bin2, q_un1, q_persM, pr_val, pr_new, pr_slot, sp_own, q_mvM, mv_val, mv_new, mv_slot, sm_own, q_set, q_free, fr_none, fr_pers, fr_own, put_val, put_new, q_not, q_andB, q_orB, q_boolM, br_bool, q_andM, q_orM, q_notM, q_ifM, q_chn2, ch_bool, q_cons, q_nil, q_tup, q_lst, q_opd1, q_opd2, q_callM, q_callF, fr_ok, fr_ex, fr_bad, q_callB, ld_own, ld_bor, fb_ok, fb_ex, q_has, has_some, os_ok, ns_some, ms_own, ms_bor, q_st, mt_some, mu_own, mu_bor, q_mutV, q_ownT, ow_own, ow_bor, q_m1, q_m0, q_tgN, q_tg, q_tgR, to_some, tgT_tup, tgT_lst, tgC_cons, tgN_nil, q_for, q_map1, q_walk, so_list, so_tup, wo_list, wo_tup, e_add, e_sub, e_neg, e_lt, e_gt, e_le, e_ge, e_eq, e_ne, e_isN, e_isnN, e_isB, e_isnB, pk_some, e_ixL, e_ixT, e_lastL, e_lastT, e_part, e_intR, e_noPart, e_slice, e_slL, e_slT, q_par, q_par1, q_par2, po_val, po_new, nx_some, q_getM, q_getE, gate_some, go_int, dat_val, q_pop2, ow_dict, fin_nx, fin_rt, fin_ex, bor_t, bor_f, e_lenL, e_lenT, e_abs, e_min, e_max, e_int, e_intB, e_tupL, e_tupT, e_lstL, e_lstT, e_all, e_any, e_sum, e_isa, e_set0, e_set2, Int.reduceLE, Int.reduceLT, Int.reduceToNat, Int.reduceNeg, Int.le_refl, Int.toNat_zero, List.getElem?_cons_zero, List.getElem?_cons_succ, List.set_cons_zero, List.set_cons_succ, Option.bind_some, Bool.false_eq_true, if_true, if_false, ite_true, ite_false, reduceIte, decide_true, decide_false, Bool.not_true, Bool.not_false, List.map_cons, List.map_nil, List.any_cons, List.any_nil, Bool.or_false, Bool.or_true, Bool.true_or, Bool.false_or, Bool.and_true, Bool.true_and, Bool.false_and, Bool.and_false, show walkO (tpD r) = some (r.map Pln.e) from rfl]) rfl (line20 h) fun x hx => ?_
    refine ⟨[some (.pers, tpD r), some (.pers, .int lane), some (.pers, Pln.e x)], [some (.pers, tpD r), some (.pers, .int lane), some (.pers, Pln.e x)], rfl, ?_, fun _ => rfl, fun _ => ⟨[some (.pers, tpD r), some (.pers, .int lane), some (.pers, Pln.e x)], ?_, rfl⟩⟩
    · simp only [bd_ok, bd_ex, bd_bad, q_pure, q_optS, q_optN, sq_nx, sq_rt, sq_ex, sq_bad, q_seq, q_pass, of_ok, of_ex, of_bad, q_expr, q_if, q_ret, ret_val, ret_new, q_raise, q_var, sv_pers, sv_own, sv_bor, q_con, q_datV, q_datN, q_datS, sd_some, q_optRS, q_optRN, res_t, res_f, q_bin2, q_un1, q_persM, pr_val, pr_new, pr_slot, sp_own, q_mvM, mv_val, mv_new, mv_slot, sm_own, q_set, q_free, fr_none, fr_pers, fr_own, put_val, put_new, q_not, q_andB, q_orB, q_boolM, br_bool, q_andM, q_orM, q_notM, q_ifM, q_chn2, ch_bool, q_cons, q_nil, q_tup, q_lst, q_opd1, q_opd2, q_callM, q_callF, fr_ok, fr_ex, fr_bad, q_callB, ld_own, ld_bor, fb_ok, fb_ex, q_has, has_some, os_ok, ns_some, ms_own, ms_bor, q_st, mt_some, mu_own, mu_bor, q_mutV, q_ownT, ow_own, ow_bor, q_m1, q_m0, q_tgN, q_tg, q_tgR, to_some, tgT_tup, tgT_lst, tgC_cons, tgN_nil, q_for, q_map1, q_walk, so_list, so_tup, wo_list, wo_tup, e_add, e_sub, e_neg, e_lt, e_gt, e_le, e_ge, e_eq, e_ne, e_isN, e_isnN, e_isB, e_isnB, pk_some, e_ixL, e_ixT, e_lastL, e_lastT, e_part, e_intR, e_noPart, e_slice, e_slL, e_slT, q_par, q_par1, q_par2, po_val, po_new, nx_some, q_getM, q_getE, gate_some, go_int, dat_val, q_pop2, ow_dict, fin_nx, fin_rt, fin_ex, bor_t, bor_f, e_lenL, e_lenT, e_abs, e_min, e_max, e_int, e_intB, e_tupL, e_tupT, e_lstL, e_lstT, e_all, e_any, e_sum, e_isa, e_set0, e_set2, Int.reduceLE, Int.reduceLT, Int.reduceToNat, Int.reduceNeg, Int.le_refl, Int.toNat_zero, List.getElem?_cons_zero, List.getElem?_cons_succ, List.set_cons_zero, List.set_cons_succ, Option.bind_some, Bool.false_eq_true, if_true, if_false, ite_true, ite_false, reduceIte, decide_true, decide_false, Bool.not_true, Bool.not_false, List.map_cons, List.map_nil, List.any_cons, List.any_nil, Bool.or_false, Bool.or_true, Bool.true_or, Bool.false_or, Bool.and_true, Bool.true_and, Bool.false_and, Bool.and_false, ho_0]
    · unfold ce_lane_of_0
      simp only [bd_ok, bd_ex, bd_bad, q_pure, q_optS, q_optN, sq_nx, sq_rt, sq_ex, sq_bad, q_seq, q_pass, of_ok, of_ex, of_bad, q_expr, q_if, q_ret, ret_val, ret_new, q_raise, q_var, sv_pers, sv_own, sv_bor, q_con, q_datV, q_datN, q_datS, sd_some, q_optRS, q_optRN, res_t, res_f, q_bin2, q_un1, q_persM, pr_val, pr_new, pr_slot, sp_own, q_mvM, mv_val, mv_new, mv_slot, sm_own, q_set, q_free, fr_none, fr_pers, fr_own, put_val, put_new, q_not, q_andB, q_orB, q_boolM, br_bool, q_andM, q_orM, q_notM, q_ifM, q_chn2, ch_bool, q_cons, q_nil, q_tup, q_lst, q_opd1, q_opd2, q_callM, q_callF, fr_ok, fr_ex, fr_bad, q_callB, ld_own, ld_bor, fb_ok, fb_ex, q_has, has_some, os_ok, ns_some, ms_own, ms_bor, q_st, mt_some, mu_own, mu_bor, q_mutV, q_ownT, ow_own, ow_bor, q_m1, q_m0, q_tgN, q_tg, q_tgR, to_some, tgT_tup, tgT_lst, tgC_cons, tgN_nil, q_for, q_map1, q_walk, so_list, so_tup, wo_list, wo_tup, e_add, e_sub, e_neg, e_lt, e_gt, e_le, e_ge, e_eq, e_ne, e_isN, e_isnN, e_isB, e_isnB, pk_some, e_ixL, e_ixT, e_lastL, e_lastT, e_part, e_intR, e_noPart, e_slice, e_slL, e_slT, q_par, q_par1, q_par2, po_val, po_new, nx_some, q_getM, q_getE, gate_some, go_int, dat_val, q_pop2, ow_dict, fin_nx, fin_rt, fin_ex, bor_t, bor_f, e_lenL, e_lenT, e_abs, e_min, e_max, e_int, e_intB, e_tupL, e_tupT, e_lstL, e_lstT, e_all, e_any, e_sum, e_isa, e_set0, e_set2, Int.reduceLE, Int.reduceLT, Int.reduceToNat, Int.reduceNeg, Int.le_refl, Int.toNat_zero, List.getElem?_cons_zero, List.getElem?_cons_succ, List.set_cons_zero, List.set_cons_succ, Option.bind_some, Bool.false_eq_true, if_true, if_false, ite_true, ite_false, reduceIte, decide_true, decide_false, Bool.not_true, Bool.not_false, List.map_cons, List.map_nil, List.any_cons, List.any_nil, Bool.or_false, Bool.or_true, Bool.true_or, Bool.false_or, Bool.and_true, Bool.true_and, Bool.false_and, Bool.and_false, ho_cut]
      rfl
  unfold t_lane_of
  simp only [bd_ok, bd_ex, bd_bad, q_pure, q_optS, q_optN, sq_nx, sq_rt, sq_ex, sq_bad, q_seq, q_pass, of_ok, of_ex, of_bad, q_expr, q_if, q_ret, ret_val, ret_new, q_raise, q_var, sv_pers, sv_own, sv_bor, q_con, q_datV, q_datN, q_datS, sd_some, q_optRS, q_optRN, res_t, res_f, q_bin2, q_un1, q_persM, pr_val, pr_new, pr_slot, sp_own, q_mvM, mv_val, mv_new, mv_slot, sm_own, q_set, q_free, fr_none, fr_pers, fr_own, put_val, put_new, q_not, q_andB, q_orB, q_boolM, br_bool, q_andM, q_orM, q_notM, q_ifM, q_chn2, ch_bool, q_cons, q_nil, q_tup, q_lst, q_opd1, q_opd2, q_callM, q_callF, fr_ok, fr_ex, fr_bad, q_callB, ld_own, ld_bor, fb_ok, fb_ex, q_has, has_some, os_ok, ns_some, ms_own, ms_bor, q_st, mt_some, mu_own, mu_bor, q_mutV, q_ownT, ow_own, ow_bor, q_m1, q_m0, q_tgN, q_tg, q_tgR, to_some, tgT_tup, tgT_lst, tgC_cons, tgN_nil, q_for, q_map1, q_walk, so_list, so_tup, wo_list, wo_tup, e_add, e_sub, e_neg, e_lt, e_gt, e_le, e_ge, e_eq, e_ne, e_isN, e_isnN, e_isB, e_isnB, pk_some, e_ixL, e_ixT, e_lastL, e_lastT, e_part, e_intR, e_noPart, e_slice, e_slL, e_slT, q_par, q_par1, q_par2, po_val, po_new, nx_some, q_getM, q_getE, gate_some, go_int, dat_val, q_pop2, ow_dict, fin_nx, fin_rt, fin_ex, bor_t, bor_f, e_lenL, e_lenT, e_abs, e_min, e_max, e_int, e_intB, e_tupL, e_tupT, e_lstL, e_lstT, e_all, e_any, e_sum, e_isa, e_set0, e_set2, Int.reduceLE, Int.reduceLT, Int.reduceToNat, Int.reduceNeg, Int.le_refl, Int.toNat_zero, List.getElem?_cons_zero, List.getElem?_cons_succ, List.set_cons_zero, List.set_cons_succ, Option.bind_some, Bool.false_eq_true, if_true, if_false, ite_true, ite_false, reduceIte, decide_true, decide_false, Bool.not_true, Bool.not_false, List.map_cons, List.map_nil, List.any_cons, List.any_nil, Bool.or_false, Bool.or_true, Bool.true_or, Bool.false_or, Bool.and_true, Bool.true_and, Bool.false_and, Bool.and_false, h0]
/-! ### _law_roll -/
def rwD (m : List (Int × List Ho)) : PyData := .dict (asD (mapv lsD m))
structure RW (lanes : List Int) (m : List (Int × List Ho)) (top : Int) : Prop where
  nd : (m.map (·.1)).Nodup
  ne : ∀ l hs, (l, hs) ∈ m → hs ≠ []
  in_ : ∀ l hs, (l, hs) ∈ m → l ∈ lanes ∧ ∀ h ∈ hs, h.1 = l ∧ 0 ≤ h.2.1 ∧ h.2.1 ≤ h.2.2 ∧ h.2.2 ≤ top
  up : ∀ l hs, (l, hs) ∈ m → hs.Pairwise gap
def holes (m : List (Int × List Ho)) : List Ho := m.flatMap (·.2)
theorem pput_in {m : List (Int × List Ho)} {l : Int} {b : List Ho} (nd : (m.map (·.1)).Nodup) {x : Int} {hs : List Ho} (h : (x, hs) ∈ pput m l b) : (x = l ∧ hs = b) ∨ (x ≠ l ∧ (x, hs) ∈ m) := by
  have h1 := pget_of (pput_nodup (a := l) (v := b) nd) h
  rw [pget_put] at h1
  by_cases c : x = l
  · rw [if_pos c] at h1; exact .inl ⟨c, (Option.some.inj h1).symm⟩
  · rw [if_neg c] at h1; exact .inr ⟨c, pget_mem h1⟩
theorem getLast_gap {hs : List Ho} {x : Ho} (h : hs.getLast? = some x) (up : hs.Pairwise gap) {l : Int} (hl : ∀ h ∈ hs, h.1 = l ∧ 0 ≤ h.2.1 ∧ h.2.1 ≤ h.2.2) : ∀ y ∈ hs, y.2.2 ≤ x.2.2 := by
  obtain ⟨pre, rfl⟩ := List.getLast?_eq_some_iff.mp h
  intro y hy
  obtain ⟨_, _, u3⟩ := List.pairwise_append.mp up
  rcases List.mem_append.mp hy with q | q
  · have g := u3 y q x (List.mem_singleton.mpr rfl)
    have e1 := (hl y hy).1
    have e2 := hl x (by simp)
    unfold gap at g
    omega
  · rw [List.mem_singleton.mp q]; exact Int.le_refl _
theorem holes_len (m : List (Int × List Ho)) (nd : (m.map (·.1)).Nodup) (l : Int) (x : Ho) : (holes (pput m l ((pget m l).getD [] ++ [x]))).length = (holes m).length + 1 := by
  induction m with
  | nil => rfl
  | cons p m ih =>
    obtain ⟨n1, n2⟩ := List.nodup_cons.mp (show (p.1 :: m.map (·.1)).Nodup from nd)
    by_cases c : p.1 = l
    · have nl : l ∉ m.map (·.1) := c ▸ n1
      have e1 : pget (p :: m) l = some p.2 := by unfold pget; rw [List.find?_cons_of_pos (by simpa using c)]; rfl
      have e2 : pput (p :: m) l ((pget (p :: m) l).getD [] ++ [x]) = (p.1, p.2 ++ [x]) :: m := by
        rw [e1]
        unfold pput
        rw [if_pos (by simp [c]), List.map_cons, if_pos c]
        congr 1
        refine (List.map_congr_left fun q hq => ?_).trans (List.map_id _)
        have : q.1 ≠ l := fun z => nl (z ▸ List.mem_map.mpr ⟨q, hq, rfl⟩)
        rw [if_neg this]; rfl
      rw [e2]
      unfold holes
      rw [List.flatMap_cons, List.flatMap_cons, List.length_append, List.length_append, List.length_append]
      simp; omega
    · have e1 : pget (p :: m) l = pget m l := by unfold pget; rw [List.find?_cons_of_neg (by simpa using c)]
      have e2 : pput (p :: m) l ((pget (p :: m) l).getD [] ++ [x]) = p :: pput m l ((pget m l).getD [] ++ [x]) := by
        rw [e1]
        have hk : l ∈ (p :: m).map (·.1) ↔ l ∈ m.map (·.1) := by
          rw [List.map_cons, List.mem_cons]
          exact ⟨fun h => h.elim (fun z => absurd z.symm c) id, .inr⟩
        unfold pput
        by_cases z : l ∈ m.map (·.1)
        · rw [if_pos (hk.mpr z), if_pos z, List.map_cons, if_neg c]
        · rw [if_neg (fun q => z (hk.mp q)), if_neg z]; rfl
      rw [e2]
      unfold holes at ih ⊢
      rw [List.flatMap_cons, List.flatMap_cons, List.length_append, List.length_append, ih n2]; omega
theorem RW.put {lanes : List Int} {m : List (Int × List Ho)} {top : Int} (h : RW lanes m top) {l : Int} (hl : l ∈ lanes) {a b top' : Int} (ht : top ≤ top') (hb : b ≤ top') (hab : a ≤ b) (ha : 0 ≤ a)
    (hlast : ∀ hs x, pget m l = some hs → hs.getLast? = some x → x.2.2 + 2 ≤ a) : RW lanes (pput m l ((pget m l).getD [] ++ [(l, a, b)])) top' := by
  refine ⟨pput_nodup h.nd, fun x hs hx => ?_, fun x hs hx => ?_, fun x hs hx => ?_⟩
  · rcases pput_in h.nd hx with ⟨_, rfl⟩ | ⟨_, q⟩
    · simp
    · exact h.ne x hs q
  · rcases pput_in h.nd hx with ⟨rfl, rfl⟩ | ⟨_, q⟩
    · refine ⟨hl, fun y hy => ?_⟩
      rcases List.mem_append.mp hy with z | z
      · cases eg : pget m x with
        | none => rw [eg] at z; cases z
        | some hs =>
          rw [eg] at z
          have := (h.in_ x hs (pget_mem eg)).2 y z
          omega
      · rw [List.mem_singleton.mp z]; exact ⟨rfl, ha, hab, hb⟩
    · obtain ⟨q1, q2⟩ := h.in_ x hs q
      exact ⟨q1, fun y hy => by have := q2 y hy; omega⟩
  · rcases pput_in h.nd hx with ⟨rfl, rfl⟩ | ⟨_, q⟩
    · cases eg : pget m x with
      | none => exact List.pairwise_singleton _ _
      | some hs =>
        refine List.pairwise_append.mpr ⟨h.up x hs (pget_mem eg), List.pairwise_singleton _ _, fun y hy z hz => ?_⟩
        rw [List.mem_singleton.mp hz]
        have hn := h.ne x hs (pget_mem eg)
        have inn := (h.in_ x hs (pget_mem eg)).2
        have el : hs.getLast? = some (hs.getLast hn) := List.getLast?_eq_some_getLast hn
        have g1 := hlast hs _ eg el
        have g2 := getLast_gap el (h.up x hs (pget_mem eg)) (l := x) (fun y hy => by have := inn y hy; omega) y hy
        have e1 := (inn y hy).1
        exact .inr ⟨e1, by show y.2.2 + 2 ≤ a; omega⟩
    · exact h.up x hs q
theorem RW.sorted {lanes : List Int} {m : List (Int × List Ho)} {top : Int} (h : RW lanes m top) (hl : ∀ l ∈ lanes, 0 ≤ l ∧ l ≤ 19) (ht : top ≤ 20000) (hn : (holes m).length ≤ 200) : RollOk (srt (holes m)) := by
  have inn : ∀ x ∈ holes m, 0 ≤ x.1 ∧ x.1 ≤ 19 ∧ 0 ≤ x.2.1 ∧ x.2.1 ≤ x.2.2 ∧ x.2.2 ≤ top := fun x hx => by
    obtain ⟨⟨l, hs⟩, h1, h2⟩ := List.mem_flatMap.mp hx
    obtain ⟨q1, q2⟩ := h.in_ l hs h1
    have := q2 x h2
    have := hl l q1
    omega
  have pw : (holes m).Pairwise fun a b => (a.1 ≠ b.1 ∨ a.2.2 + 2 ≤ b.2.1 ∨ b.2.2 + 2 ≤ a.2.1) ∧ a ≠ b := by
    have nd := h.nd
    have hm : ∀ p ∈ m, (∀ x ∈ p.2, x.1 = p.1 ∧ x.2.1 ≤ x.2.2) ∧ p.2.Pairwise gap := fun p hp => ⟨fun x hx => by
      have := (h.in_ p.1 p.2 hp).2 x hx; omega, h.up p.1 p.2 hp⟩
    clear inn hn h
    unfold holes
    induction m with
    | nil => exact .nil
    | cons p m ih =>
      obtain ⟨n1, n2⟩ := List.nodup_cons.mp (show (p.1 :: m.map (·.1)).Nodup from nd)
      rw [List.flatMap_cons]
      refine List.pairwise_append.mpr ⟨?_, ih n2 fun q hq => hm q (List.mem_cons_of_mem _ hq), fun a ha b hb => ?_⟩
      · obtain ⟨i1, i2⟩ := hm p List.mem_cons_self
        refine (List.Pairwise.and_mem.mp i2).imp fun {a b} ⟨ha, hb, g⟩ => ?_
        have := i1 a ha
        have := i1 b hb
        unfold gap at g
        refine ⟨by omega, fun z => ?_⟩
        subst z; omega
      · obtain ⟨q, hq, hb⟩ := List.mem_flatMap.mp hb
        have e1 := ((hm p List.mem_cons_self).1 a ha).1
        have e2 := ((hm q (List.mem_cons_of_mem _ hq)).1 b hb).1
        have ne : p.1 ≠ q.1 := fun z => n1 (z ▸ List.mem_map.mpr ⟨q, hq, rfl⟩)
        refine ⟨.inl (by omega), fun z => ?_⟩
        subst z; omega
  have nd : (holes m).Nodup := pw.imp fun h => h.2
  have sp := (srt_perm (holes m)).symm.pairwise (R := fun a b : Ho => (a.1 ≠ b.1 ∨ a.2.2 + 2 ≤ b.2.1 ∨ b.2.2 + 2 ≤ a.2.1) ∧ a ≠ b) pw fun {a b} ⟨h1, h2⟩ => ⟨by omega, fun z => h2 z.symm⟩
  refine ⟨by rw [srt_len]; exact hn, fun x hx => ?_, ?_⟩
  · have := inn x (srt_mem.mp hx); omega
  · refine (List.Pairwise.and_mem.mp (List.pairwise_and_iff.mpr ⟨sp, srt_lt nd⟩)).imp fun {a b} ⟨ha, hb, ⟨h1, _⟩, h2⟩ => ?_
    have i1 := inn a (srt_mem.mp ha)
    have i2 := inn b (srt_mem.mp hb)
    have h2 : a.1 < b.1 ∨ (a.1 = b.1 ∧ (a.2.1 < b.2.1 ∨ (a.2.1 = b.2.1 ∧ a.2.2 < b.2.2))) := h2
    unfold gap
    omega
end LW

namespace LW
open PySem PySem.Spec PyProof.Rows L2 DL
theorem ix3i {a b c v : Int} (h0 : 0 ≤ v) (h3 : v < 3) : ∃ d, ixD (.list [.int a, .int b, .int c]) (.int v) = some (false, .int d) ∧ (d = a ∨ d = b ∨ d = c) := by
  have : v = 0 ∨ v = 1 ∨ v = 2 := by omega
  rcases this with rfl | rfl | rfl
  · exact ⟨a, rfl, .inl rfl⟩
  · exact ⟨b, rfl, .inr (.inl rfl)⟩
  · exact ⟨c, rfl, .inr (.inr rfl)⟩
theorem ix_any {as : List Int} {v : Int} (h0 : 0 ≤ v) (h1 : v < as.length) : ∃ d, ixD (lsD as) (.int v) = some (false, .int d) ∧ d ∈ as := by
  have hl : v.toNat < as.length := by omega
  exact ⟨as[v.toNat], ix_ls h0 (List.getElem?_eq_getElem hl), List.getElem_mem hl⟩
def envR (y : PyData) (n : Int) (lanes : List Int) (m : List (Int × List Ho)) (t : Option (Kd × PyData)) : DEnv := [some (.bor, y), some (.pers, .int n), some (.pers, lsD lanes), some (.own, rwD m), t, none, none, none, none]
section
variable {lanes : List Int} {nl : Int} (hnl : (lanes.length : Int) = nl) (hn0 : 0 < nl) (hn1 : nl ≤ 100)
include hnl hn0 hn1
theorem body_roll {y : PyData} {n k top tn : Int} {m : List (Int × List Ho)} (B : Bg k y) (hk : k < 100000000) (h : RW lanes m top) (h0 : -2 ≤ top) (h1 : top ≤ 100000) (hm : (holes m).length ≤ 500) (hl2 : m.length ≤ 1000) :
    ∃ y' m' l a b, lb__law_roll_1 (envR y n lanes m (some (.pers, .int tn))) = .nx [some (.bor, y'), some (.pers, .int n), some (.pers, lsD lanes), some (.own, rwD m'), some (.pers, .int tn), some (.pers, .int l), some (.pers, .int b), some (.pers, .int a), none] ∧
      Bg (k + 7) y' ∧ RW lanes m' (top + 102) ∧ (holes m').length = (holes m).length + 1 ∧ m'.length ≤ m.length + 1 := by
  have hlen : lenD [lsD lanes] = some (false, .int nl) := by rw [len_ls, hnl]
  obtain ⟨v1, y1, e1, p1, q1, B1⟩ := take_ok (m := nl) B hn0 (by omega) (by omega)
  obtain ⟨l, el, ml⟩ := ix_any (as := lanes) p1 (by omega)
  obtain ⟨v2, y2, e2, p2, q2, B2⟩ := take_ok (m := 4) B1 (by decide) (by decide) (by omega)
  obtain ⟨v3, y3, e3, p3, q3, B3⟩ := take_ok (m := 40) B2 (by decide) (by decide) (by omega)
  obtain ⟨v4, y4, e4, p4, q4, B4⟩ := take_ok (m := 3) B3 (by decide) (by decide) (by omega)
  obtain ⟨c, ec, hc⟩ := ix3i (a := 0) (b := v2) (c := v3) p4 q4
  obtain ⟨v5, y5, e5, p5, q5, B5⟩ := take_ok (m := 3) B4 (by decide) (by decide) (by omega)
  obtain ⟨c2, ec2, hc2⟩ := ix3i (a := 1) (b := 6) (c := 60) p5 q5
  obtain ⟨v6, y6, e6, p6, q6, B6⟩ := take_ok (m := c2) B5 (by omega) (by omega) (by omega)
  have kf : keyFor (asD (mapv lsD m)) (.int 0) = true := keyFor_as _ (0 : Int) (.inr rfl)
  have hin : inD (.int l) (rwD m) = some (false, .bool (decide (l ∈ m.map (·.1)))) := by
    have := in_as (mapv lsD m) l (.inr rfl)
    rw [mapv_keys] at this
    exact this
  have hix : ixD (rwD m) (.int l) = pick ((pget m l).map lsD) := by
    have := ix_as (mapv lsD m) l (.inr rfl)
    rw [mapv_get] at this
    exact this
  have hget : dfind (asD (mapv lsD m)) (.int l) = (pget m l).map lsD := by
    have := dfind_as (mapv lsD m) l
    rw [mapv_get] at this
    exact this
  -- the last spot of the lane
  have hlast : ∃ q : Int, -2 ≤ q ∧ q ≤ top ∧ ((l ∉ m.map (·.1) ∧ q = -2) ∨ ∃ hs x, l ∈ m.map (·.1) ∧ pget m l = some hs ∧ ixD (lsD hs) (.int (-1)) = some (false, Pln.e (x : Ho)) ∧ q = x.2.2) ∧
      ∀ hs x, pget m l = some hs → hs.getLast? = some x → x.2.2 = q := by
    cases eg : pget m l with
    | none => exact ⟨-2, by omega, by omega, .inl ⟨pget_none.mp eg, rfl⟩, fun hs x z => by cases z⟩
    | some hs =>
      have mem : l ∈ m.map (·.1) := Decidable.byContradiction fun z => by rw [pget_none.mpr z] at eg; cases eg
      have hne := h.ne l hs (pget_mem eg)
      have elast : hs.getLast? = some (hs.getLast hne) := List.getLast?_eq_some_getLast hne
      obtain ⟨_, i2⟩ := h.in_ l hs (pget_mem eg)
      have i3 := i2 _ (List.getLast_mem hne)
      have xl : ixD (lsD hs) (.int (-1)) = some (false, Pln.e (hs.getLast hne)) := by
        unfold lsD; rw [e_lastL, List.getLast?_map, elast]; rfl
      refine ⟨(hs.getLast hne).2.2, by omega, by omega, .inr ⟨hs, _, mem, rfl, xl, rfl⟩, fun hs' x z w => ?_⟩
      cases z
      rw [elast] at w; cases w; rfl
  obtain ⟨q, q0, qt, eq, hq⟩ := hlast
  have hadd : ∀ hs : List Ho, hs.length ≤ 900 → ∀ a b : Int, addD (lsD hs) (.list [.tuple [.int l, .int a, .int b]]) = some (true, lsD (hs ++ [(l, a, b)])) := fun hs hh a b => by
    have : lsD (hs ++ [(l, a, b)]) = .list (hs.map Pln.e ++ [.tuple [.int l, .int a, .int b]]) := by unfold lsD; rw [List.map_append]; rfl
    rw [this]
    exact e_addL (line20 (by rw [List.length_map]; show hs.length + 1 ≤ 1000; omega))
  have hgl : ((pget m l).getD []).length ≤ 500 := by
    cases eg : pget m l with
    | none => exact Nat.zero_le _
    | some hs =>
      refine Nat.le_trans ?_ hm
      unfold holes
      have := pget_mem eg
      obtain ⟨s, t, rfl⟩ := List.append_of_mem this
      rw [List.flatMap_append, List.flatMap_cons, List.length_append, List.length_append]
      have : (l, hs).2.length = hs.length := rfl
      show hs.length ≤ _
      omega
  have hgd : ((pget m l).map lsD).getD (.list []) = lsD ((pget m l).getD []) := by
    cases pget m l <;> rfl
  have hset : ∀ hs : List Ho, setD (rwD m) (.int l) (lsD hs) = some (rwD (pput m l hs)) := fun hs => by
    have := set_as (mapv lsD m) l (lsD hs) (Nat.lt_of_le_of_lt (show (mapv lsD m).length ≤ 1000 by unfold mapv; rw [List.length_map]; exact hl2) (by decide))
    rw [← mapv_put] at this
    exact this
  refine ⟨y6, pput m l ((pget m l).getD [] ++ [(l, q + 2 + c, q + 2 + c + v6)]), l, q + 2 + c, q + 2 + c + v6, ?_, B6.mono (by omega), h.put ml (by omega) (by omega) (by omega) (by omega) fun hs x z w => ?_, holes_len m h.nd l _, pput_len _ _ _⟩
  · unfold lb__law_roll_1 envR
    rw [show rwD m = .dict (asD (mapv lsD m)) from rfl] at hin hix ⊢
    rcases eq with ⟨nm, eq⟩ | ⟨hs, x, mem, eg, xl, eq⟩
    · rw [eq]
      simp only [bd_ok, bd_ex, bd_bad, q_pure, q_optS, q_optN, sq_nx, sq_rt, sq_ex, sq_bad, q_seq, q_pass, of_ok, of_ex, of_bad, q_expr, q_if, q_ret, ret_val, ret_new, q_raise, q_var, sv_pers, sv_own, sv_bor, q_con, q_datV, q_datN, q_datS, sd_some, q_optRS, q_optRN, res_t, res_f, q_bin2, q_un1, q_persM, pr_val, pr_new, pr_slot, sp_own, q_mvM, mv_val, mv_new, mv_slot, sm_own, q_set, q_free, fr_none, fr_pers, fr_own, put_val, put_new, q_not, q_andB, q_orB, q_boolM, br_bool, q_andM, q_orM, q_notM, q_ifM, q_chn2, ch_bool, q_cons, q_nil, q_tup, q_lst, q_opd1, q_opd2, q_callM, q_callF, fr_ok, fr_ex, fr_bad, q_callB, ld_own, ld_bor, fb_ok, fb_ex, q_has, has_some, os_ok, ns_some, ms_own, ms_bor, q_st, mt_some, mu_own, mu_bor, q_mutV, q_ownT, ow_own, ow_bor, q_m1, q_m0, q_tgN, q_tg, q_tgR, to_some, tgT_tup, tgT_lst, tgC_cons, tgN_nil, q_for, q_map1, q_walk, so_list, so_tup, wo_list, wo_tup, e_add, e_sub, e_neg, e_lt, e_gt, e_le, e_ge, e_eq, e_ne, e_isN, e_isnN, e_isB, e_isnB, pk_some, e_ixL, e_ixT, e_lastL, e_lastT, e_part, e_intR, e_noPart, e_slice, e_slL, e_slT, q_par, q_par1, q_par2, po_val, po_new, nx_some, q_getM, q_getE, gate_some, go_int, dat_val, q_pop2, ow_dict, fin_nx, fin_rt, fin_ex, bor_t, bor_f, e_lenL, e_lenT, e_abs, e_min, e_max, e_int, e_intB, e_tupL, e_tupT, e_lstL, e_lstT, e_all, e_any, e_sum, e_isa, e_set0, e_set2, Int.reduceLE, Int.reduceLT, Int.reduceToNat, Int.reduceNeg, Int.le_refl, Int.toNat_zero, List.getElem?_cons_zero, List.getElem?_cons_succ, List.set_cons_zero, List.set_cons_succ, Option.bind_some, Bool.false_eq_true, if_true, if_false, ite_true, ite_false, reduceIte, decide_true, decide_false, Bool.not_true, Bool.not_false, List.map_cons, List.map_nil, List.any_cons, List.any_nil, Bool.or_false, Bool.or_true, Bool.true_or, Bool.false_or, Bool.and_true, Bool.true_and, Bool.false_and, Bool.and_false, hin, nm, hlen, e1, el, e2, e3, e4, ec, e5, ec2, e6, dk_dict kf, hget, hgd, hadd _ (Nat.le_trans hgl (by decide)), show ∀ hs, setD (.dict (asD (mapv lsD m))) (.int l) (lsD hs) = some (rwD (pput m l hs)) from hset]
    · rw [eq]
      have hgd' : (some (lsD hs)).getD (.list []) = lsD hs := rfl
      rw [eg] at hgl
      have hgd2 : (some hs).getD [] = hs := rfl
      simp only [bd_ok, bd_ex, bd_bad, q_pure, q_optS, q_optN, sq_nx, sq_rt, sq_ex, sq_bad, q_seq, q_pass, of_ok, of_ex, of_bad, q_expr, q_if, q_ret, ret_val, ret_new, q_raise, q_var, sv_pers, sv_own, sv_bor, q_con, q_datV, q_datN, q_datS, sd_some, q_optRS, q_optRN, res_t, res_f, q_bin2, q_un1, q_persM, pr_val, pr_new, pr_slot, sp_own, q_mvM, mv_val, mv_new, mv_slot, sm_own, q_set, q_free, fr_none, fr_pers, fr_own, put_val, put_new, q_not, q_andB, q_orB, q_boolM, br_bool, q_andM, q_orM, q_notM, q_ifM, q_chn2, ch_bool, q_cons, q_nil, q_tup, q_lst, q_opd1, q_opd2, q_callM, q_callF, fr_ok, fr_ex, fr_bad, q_callB, ld_own, ld_bor, fb_ok, fb_ex, q_has, has_some, os_ok, ns_some, ms_own, ms_bor, q_st, mt_some, mu_own, mu_bor, q_mutV, q_ownT, ow_own, ow_bor, q_m1, q_m0, q_tgN, q_tg, q_tgR, to_some, tgT_tup, tgT_lst, tgC_cons, tgN_nil, q_for, q_map1, q_walk, so_list, so_tup, wo_list, wo_tup, e_add, e_sub, e_neg, e_lt, e_gt, e_le, e_ge, e_eq, e_ne, e_isN, e_isnN, e_isB, e_isnB, pk_some, e_ixL, e_ixT, e_lastL, e_lastT, e_part, e_intR, e_noPart, e_slice, e_slL, e_slT, q_par, q_par1, q_par2, po_val, po_new, nx_some, q_getM, q_getE, gate_some, go_int, dat_val, q_pop2, ow_dict, fin_nx, fin_rt, fin_ex, bor_t, bor_f, e_lenL, e_lenT, e_abs, e_min, e_max, e_int, e_intB, e_tupL, e_tupT, e_lstL, e_lstT, e_all, e_any, e_sum, e_isa, e_set0, e_set2, Int.reduceLE, Int.reduceLT, Int.reduceToNat, Int.reduceNeg, Int.le_refl, Int.toNat_zero, List.getElem?_cons_zero, List.getElem?_cons_succ, List.set_cons_zero, List.set_cons_succ, Option.bind_some, Bool.false_eq_true, if_true, if_false, ite_true, ite_false, reduceIte, decide_true, decide_false, Bool.not_true, Bool.not_false, List.map_cons, List.map_nil, List.any_cons, List.any_nil, Bool.or_false, Bool.or_true, Bool.true_or, Bool.false_or, Bool.and_true, Bool.true_and, Bool.false_and, Bool.and_false, hin, mem, hix, eg, Option.map_some, xl, ho_2, hlen, e1, el, e2, e3, e4, ec, e5, ec2, e6, dk_dict kf, hget, hgd', hgd2, hadd hs (Nat.le_trans hgl (by decide)), show ∀ hs, setD (.dict (asD (mapv lsD m))) (.int l) (lsD hs) = some (rwD (pput m l hs)) from hset]
  · have := hq hs x z w; omega
theorem loop_roll {n : Int} : ∀ (ts : List Int) (y : PyData) (k top : Int) (m : List (Int × List Ho)), Bg k y → k + 7 * ts.length < 100000000 → RW lanes m top → -2 ≤ top → top + 102 * ts.length ≤ 100000 → (holes m).length + ts.length ≤ 400 → m.length + ts.length ≤ 400 →
    ∃ y' m', loopS (tgN 4) lb__law_roll_1 [4, 5, 6, 7] (ts.map PyData.int) (envR y n lanes m none) = .nx (envR y' n lanes m' none) ∧ Bg (k + 7 * ts.length) y' ∧ RW lanes m' (top + 102 * ts.length) ∧ (holes m').length = (holes m).length + ts.length
  | [], y, k, top, m, B, _, h, _, _, _, _ => ⟨y, m, rfl, by simpa using B, by simpa using h, rfl⟩
  | t :: ts, y, k, top, m, B, hk, h, h0, h1, hm, hl => by
    rw [List.length_cons] at hk h1 hm hl
    obtain ⟨y1, m1, l, a, b, e1, B1, r1, l1, l2⟩ := body_roll hnl hn0 hn1 (n := n) (tn := t) B (by omega) h h0 (by omega) (by omega) (by omega)
    obtain ⟨y2, m2, e2, B2, r2, l3⟩ := loop_roll (n := n) ts y1 (k + 7) (top + 102) m1 B1 (by omega) r1 (by omega) (by omega) (by omega) (by omega)
    refine ⟨y2, m2, ?_, B2.mono (by rw [List.length_cons]; omega), ?_, by rw [List.length_cons]; omega⟩
    · rw [List.map_cons]
      unfold loopS
      rw [show tgN 4 (PyData.int t) (envR y n lanes m none) = some (envR y n lanes m (some (.pers, .int t))) from rfl]
      dsimp only
      rw [e1]
      exact e2
    · have : top + 102 + 102 * (ts.length : Int) = top + 102 * ((t :: ts).length : Int) := by rw [List.length_cons]; omega
      rw [← this]; exact r2
theorem loop_found {y : PyData} {n : Int} {m : List (Int × List Ho)} (nd : (m.map (·.1)).Nodup) : ∀ (ps : List (Int × List Ho)) (found : List Ho), (∀ p ∈ ps, p ∈ m) → found.length + (holes ps).length ≤ 900 →
    loopS (tgN 5) lb__law_roll_0 [5] ((ps.map (·.1)).map PyData.int) [some (.bor, y), some (.pers, .int n), some (.pers, lsD lanes), some (.pers, rwD m), none, none, none, none, some (.own, lsD found)]
      = .nx [some (.bor, y), some (.pers, .int n), some (.pers, lsD lanes), some (.pers, rwD m), none, none, none, none, some (.own, lsD (found ++ holes ps))]
  | [], found, _, _ => by unfold holes; rw [List.flatMap_nil, List.append_nil]; rfl
  | p :: ps, found, hp, hl => by
    have hh : (holes (p :: ps)).length = p.2.length + (holes ps).length := by unfold holes; rw [List.flatMap_cons, List.length_append]
    have hix : ixD (rwD m) (.int p.1) = some (false, lsD p.2) := by
      have := ix_as (mapv lsD m) p.1 (.inr rfl)
      rw [mapv_get, pget_of nd (hp p List.mem_cons_self)] at this
      exact this
    have hadd : addD (lsD found) (lsD p.2) = some (true, lsD (found ++ p.2)) := by
      have : lsD (found ++ p.2) = .list (found.map Pln.e ++ p.2.map Pln.e) := by unfold lsD; rw [List.map_append]
      rw [this]
      exact e_addL (line20 (by rw [List.length_map, List.length_map]; omega))
    have eb : lb__law_roll_0 [some (.bor, y), some (.pers, .int n), some (.pers, lsD lanes), some (.pers, rwD m), none, some (.pers, .int p.1), none, none, some (.own, lsD found)] = .nx [some (.bor, y), some (.pers, .int n), some (.pers, lsD lanes), some (.pers, rwD m), none, some (.pers, .int p.1), none, none, some (.own, lsD (found ++ p.2))] := by
      unfold lb__law_roll_0
      simp only [bd_ok, bd_ex, bd_bad, q_pure, q_optS, q_optN, sq_nx, sq_rt, sq_ex, sq_bad, q_seq, q_pass, of_ok, of_ex, of_bad, q_expr, q_if, q_ret, ret_val, ret_new, q_raise, q_var, sv_pers, sv_own, sv_bor, q_con, q_datV, q_datN, q_datS, sd_some, q_optRS, q_optRN, res_t, res_f, q_bin2, q_un1, q_persM, pr_val, pr_new, pr_slot, sp_own, q_mvM, mv_val, mv_new, mv_slot, sm_own, q_set, q_free, fr_none, fr_pers, fr_own, put_val, put_new, q_not, q_andB, q_orB, q_boolM, br_bool, q_andM, q_orM, q_notM, q_ifM, q_chn2, ch_bool, q_cons, q_nil, q_tup, q_lst, q_opd1, q_opd2, q_callM, q_callF, fr_ok, fr_ex, fr_bad, q_callB, ld_own, ld_bor, fb_ok, fb_ex, q_has, has_some, os_ok, ns_some, ms_own, ms_bor, q_st, mt_some, mu_own, mu_bor, q_mutV, q_ownT, ow_own, ow_bor, q_m1, q_m0, q_tgN, q_tg, q_tgR, to_some, tgT_tup, tgT_lst, tgC_cons, tgN_nil, q_for, q_map1, q_walk, so_list, so_tup, wo_list, wo_tup, e_add, e_sub, e_neg, e_lt, e_gt, e_le, e_ge, e_eq, e_ne, e_isN, e_isnN, e_isB, e_isnB, pk_some, e_ixL, e_ixT, e_lastL, e_lastT, e_part, e_intR, e_noPart, e_slice, e_slL, e_slT, q_par, q_par1, q_par2, po_val, po_new, nx_some, q_getM, q_getE, gate_some, go_int, dat_val, q_pop2, ow_dict, fin_nx, fin_rt, fin_ex, bor_t, bor_f, e_lenL, e_lenT, e_abs, e_min, e_max, e_int, e_intB, e_tupL, e_tupT, e_lstL, e_lstT, e_all, e_any, e_sum, e_isa, e_set0, e_set2, Int.reduceLE, Int.reduceLT, Int.reduceToNat, Int.reduceNeg, Int.le_refl, Int.toNat_zero, List.getElem?_cons_zero, List.getElem?_cons_succ, List.set_cons_zero, List.set_cons_succ, Option.bind_some, Bool.false_eq_true, if_true, if_false, ite_true, ite_false, reduceIte, decide_true, decide_false, Bool.not_true, Bool.not_false, List.map_cons, List.map_nil, List.any_cons, List.any_nil, Bool.or_false, Bool.or_true, Bool.true_or, Bool.false_or, Bool.and_true, Bool.true_and, Bool.false_and, Bool.and_false, hix, hadd]
    rw [List.map_cons, List.map_cons]
    unfold loopS
    rw [show tgN 5 (PyData.int p.1) [some (.bor, y), some (.pers, .int n), some (.pers, lsD lanes), some (.pers, rwD m), none, none, none, none, some (.own, lsD found)] = some [some (.bor, y), some (.pers, .int n), some (.pers, lsD lanes), some (.pers, rwD m), none, some (.pers, .int p.1), none, none, some (.own, lsD found)] from rfl]
    dsimp only
    rw [eb]
    refine (loop_found nd ps (found ++ p.2) (fun q hq => hp q (List.mem_cons_of_mem _ hq)) (by rw [List.length_append]; omega)).trans ?_
    unfold holes
    rw [List.flatMap_cons, List.append_assoc]
theorem law_roll_ok (hl : ∀ l ∈ lanes, 0 ≤ l ∧ l ≤ 19) {n : Int} (n0 : 0 ≤ n) (n1 : n ≤ 40) {y : PyData} {k : Int} (B : Bg k y) (hk : k < 50000000) :
    ∃ r y', f__law_roll [y, .int n, lsD lanes] = .ok false (tpD r) y' ∧ RollOk r ∧ (r.length : Int) ≤ n ∧ (∀ h ∈ r, h.1 ∈ lanes ∧ h.2.2 ≤ 4100) ∧ Bg (k + 300) y' := by
  obtain ⟨v, y1, e1, p1, q1, B1⟩ := take_ok (m := n + 1) B (by omega) (by omega) (by omega)
  have hup := e_range1 (j := v) (by unfold small; simp; omega)
  obtain ⟨ts, et, lt⟩ : ∃ ts : List Int, DL.upTo 0 v.toNat = ts.map PyData.int ∧ ts.length = v.toNat := ⟨(List.range v.toNat).map fun (j : Nat) => 0 + (j : Int), by unfold DL.upTo; rw [List.map_map]; rfl, by simp⟩
  rw [et] at hup
  have h0 : RW lanes [] (-2) := ⟨.nil, fun l hs h => (by cases h), fun l hs h => (by cases h), fun l hs h => (by cases h)⟩
  have hz : (holes ([] : List (Int × List Ho))).length = 0 := rfl
  have hz2 : ([] : List (Int × List Ho)).length = 0 := rfl
  obtain ⟨y2, m, e2, B2, r2, l2⟩ := loop_roll hnl hn0 hn1 (n := n) ts y1 (k + 1) (-2) [] B1 (by omega) h0 (by omega) (by omega) (by omega) (by omega)
  have hs : (holes m).length ≤ 40 := by omega
  have e3 := loop_found hnl hn0 hn1 (y := y2) (n := n) r2.nd m [] (fun p hp => hp) (by show 0 + _ ≤ 900; omega)
  have hw : walkO (rwD m) = some ((m.map (·.1)).map PyData.int) := by
    have := walk_as (mapv lsD m)
    rw [mapv_keys] at this
    exact this
  have hso := sort_ls (holes m) (by omega)
  refine ⟨srt (holes m), y2, ?_, r2.sorted hl (by omega) (by omega), by rw [srt_len]; omega, fun x hx => ?_, B2.mono (by omega)⟩
  · refine Eq.trans (run_eq (t := t__law_roll) (n := 9) (np := 3) (bor := true) rfl) ?_
    rw [show env0 9 true [y, .int n, lsD lanes] = [some (.bor, y), some (.pers, .int n), some (.pers, lsD lanes), none, none, none, none, none, none] from rfl]
    unfold envR at e2
    rw [List.nil_append] at e3
    unfold t__law_roll l__law_roll_1 l__law_roll_0
    simp only [bd_ok, bd_ex, bd_bad, q_pure, q_optS, q_optN, sq_nx, sq_rt, sq_ex, sq_bad, q_seq, q_pass, of_ok, of_ex, of_bad, q_expr, q_if, q_ret, ret_val, ret_new, q_raise, q_var, sv_pers, sv_own, sv_bor, q_con, q_datV, q_datN, q_datS, sd_some, q_optRS, q_optRN, res_t, res_f, q_bin2, q_un1, q_persM, pr_val, pr_new, pr_slot, sp_own, q_mvM, mv_val, mv_new, mv_slot, sm_own, q_set, q_free, fr_none, fr_pers, fr_own, put_val, put_new, q_not, q_andB, q_orB, q_boolM, br_bool, q_andM, q_orM, q_notM, q_ifM, q_chn2, ch_bool, q_cons, q_nil, q_tup, q_lst, q_opd1, q_opd2, q_callM, q_callF, fr_ok, fr_ex, fr_bad, q_callB, ld_own, ld_bor, fb_ok, fb_ex, q_has, has_some, os_ok, ns_some, ms_own, ms_bor, q_st, mt_some, mu_own, mu_bor, q_mutV, q_ownT, ow_own, ow_bor, q_m1, q_m0, q_tgN, q_tg, q_tgR, to_some, tgT_tup, tgT_lst, tgC_cons, tgN_nil, q_for, q_map1, q_walk, so_list, so_tup, wo_list, wo_tup, e_add, e_sub, e_neg, e_lt, e_gt, e_le, e_ge, e_eq, e_ne, e_isN, e_isnN, e_isB, e_isnB, pk_some, e_ixL, e_ixT, e_lastL, e_lastT, e_part, e_intR, e_noPart, e_slice, e_slL, e_slT, q_par, q_par1, q_par2, po_val, po_new, nx_some, q_getM, q_getE, gate_some, go_int, dat_val, q_pop2, ow_dict, fin_nx, fin_rt, fin_ex, bor_t, bor_f, e_lenL, e_lenT, e_abs, e_min, e_max, e_int, e_intB, e_tupL, e_tupT, e_lstL, e_lstT, e_all, e_any, e_sum, e_isa, e_set0, e_set2, Int.reduceLE, Int.reduceLT, Int.reduceToNat, Int.reduceNeg, Int.le_refl, Int.toNat_zero, List.getElem?_cons_zero, List.getElem?_cons_succ, List.set_cons_zero, List.set_cons_succ, Option.bind_some, Bool.false_eq_true, if_true, if_false, ite_true, ite_false, reduceIte, decide_true, decide_false, Bool.not_true, Bool.not_false, List.map_cons, List.map_nil, List.any_cons, List.any_nil, Bool.or_false, Bool.or_true, Bool.true_or, Bool.false_or, Bool.and_true, Bool.true_and, Bool.false_and, Bool.and_false, q_dct0, show PyData.dict [] = rwD [] from rfl, e1, hup, e2, show PyData.list [] = lsD ([] : List Ho) from rfl, hw, e3, hso, tup_ls]
  · obtain ⟨⟨l, hs⟩, h1, h2⟩ := List.mem_flatMap.mp (srt_mem.mp hx)
    obtain ⟨q1, q2⟩ := r2.in_ l hs h1
    have := q2 x h2
    exact ⟨this.1 ▸ q1, by omega⟩
end
end LW

namespace LW
open PySem PySem.Spec PyProof.Rows L2 DL
def t_first_tick : SM := (seqS (retS (ifM (boolM (bin2 leD (varM 1) (conM (.int 0)))) (conM (.int 0)) (bin2 addD (callF f_tick_by (consM (persM (varM 0)) (consM (persM (bin2 subD (varM 1) (conM (.int 1)))) nilM))) (conM (.int 1))))) passS)
def f_first_tick : FSem := runF 2 2 false t_first_tick
def lb_stretches_by_0 : SM := (seqS (setS 7 (callF f_first_tick (consM (persM (varM 0)) (consM (persM (bin2 addD (bin2 subD (varM 5) (varM 1)) (conM (.int 1)))) nilM)))) (seqS (setS 8 (bin2 addD (callF f_tick_by (consM (persM (varM 0)) (consM (persM (varM 6)) nilM))) (conM (.int 1)))) (seqS (ifS (boolM (bin2 ltD (varM 7) (varM 8))) (seqS (ifS (andB (boolM (bin2 neD (varM 4) (lstM nilM))) (boolM (bin2 geD (bin2 ixD (bin2 ixD (varM 4) (un1 negD (conM (.int 1)))) (conM (.int 1))) (varM 7)))) (seqS (stS 4 (un1 negD (conM (.int 1))) (tupM (consM (persM (bin2 ixD (bin2 ixD (varM 4) (un1 negD (conM (.int 1)))) (conM (.int 0)))) (consM (persM (callM max2D (opd2 (varM 8) (bin2 ixD (bin2 ixD (varM 4) (un1 negD (conM (.int 1)))) (conM (.int 1)))))) nilM)))) passS) (seqS (exprS (m1M "list" 4 appD (tupM (consM (persM (varM 7)) (consM (persM (varM 8)) nilM))))) passS)) passS) passS) passS)))
def l_stretches_by_0 : SM := forS (walkM (callF f_lane_of (consM (persM (varM 2)) (consM (persM (varM 3)) nilM)))) (tgT (tgCons (tgN 5) (tgCons (tgN 6) tgNil))) lb_stretches_by_0 [5, 6, 7, 8]
def t_stretches_by : SM := (seqS (setS 4 (lstM nilM)) (seqS l_stretches_by_0 (seqS (retS (varM 4)) passS)))
def f_stretches_by : FSem := runF 9 4 false t_stretches_by
def t_stretches : SM := (seqS (exprS (callF f_look_at_bar (consM (persM (varM 0)) (consM (persM (varM 1)) nilM)))) (seqS (exprS (callF f_look_at_roll (consM (persM (varM 2)) nilM))) (seqS (ifS (notB (boolM (callF f_is_lane (consM (persM (varM 3)) nilM)))) (seqS (raiseS "NoRoll") passS) passS) (seqS (retS (callF f_stretches_by (consM (persM (varM 0)) (consM (persM (varM 1)) (consM (persM (varM 2)) (consM (persM (varM 3)) nilM)))))) passS))))
def f_stretches : FSem := runF 4 4 false t_stretches
def ce_is_in_0 : M D := persM (chn2 leD ltD (varM 2) (varM 1) (varM 3))
def c_is_in_0 : M R := lcM (walkM (varM 0)) (tgT (tgCons (tgN 2) (tgCons (tgN 3) tgNil))) yesM ce_is_in_0 [2, 3]
def t_is_in : SM := (seqS (retS (callM anyD (opd1 c_is_in_0))) passS)
def f_is_in : FSem := runF 4 2 false t_is_in
def lb_sounded_to_0 : SM := (seqS (ifS (boolM (chn2 leD ltD (varM 3) (varM 0) (varM 4))) (seqS (setS 0 (varM 4)) passS) passS) passS)
def l_sounded_to_0 : SM := forS (walkM (varM 2)) (tgT (tgCons (tgN 3) (tgCons (tgN 4) tgNil))) lb_sounded_to_0 [3, 4]
def t_sounded_to : SM := (seqS l_sounded_to_0 (seqS (retS (ifM (boolM (bin2 isD (varM 1) (conM .none))) (varM 0) (callM min2D (opd2 (varM 0) (varM 1))))) passS))
def f_sounded_to : FSem := runF 5 3 false t_sounded_to
def lb_played_0 : SM := (seqS (exprS (m1M "list" 5 appD (tupM (consM (persM (varM 9)) (consM (persM (varM 6)) (consM (persM (callF f_sounded_to (consM (persM (varM 10)) (consM (persM (varM 11)) (consM (persM (varM 3)) nilM))))) (consM (persM (callF f_is_in (consM (persM (varM 4)) (consM (persM (varM 9)) nilM)))) nilM))))))) passS)
def l_played_0 : SM := forS (mapM1 (consM (persM (varM 7)) (consM (persM (varM 8)) nilM)) zip2O) (tgT (tgCons (tgT (tgCons (tgN 9) (tgCons (tgN 10) tgNil))) (tgCons (tgN 11) tgNil))) lb_played_0 [9, 10, 11]
def ce_played_0 : M D := persM (varM 9)
def c_played_0 : M R := lcM (walkM (sliceM (varM 7) (part (conM (.int 1))) noPart)) (tgT (tgCons (tgN 9) (tgCons (tgN 10) tgNil))) yesM ce_played_0 [9, 10]
def lb_played_1 : SM := (seqS (setS 7 (callF f_stretches_by (consM (persM (varM 0)) (consM (persM (varM 1)) (consM (persM (varM 2)) (consM (persM (varM 6)) nilM)))))) (seqS (setS 8 (bin2 addD c_played_0 (lstM (consM (persM (conM .none)) nilM)))) (seqS l_played_0 passS)))
def l_played_1 : SM := forS (mapM1 (consM (persM (conM (.int 2))) (consM (persM (bin2 addD (conM (.int 19)) (conM (.int 1)))) nilM)) range2O) (tgN 6) lb_played_1 [6, 7, 8, 9, 10, 11]
def t_played : SM := (seqS (exprS (callF f_look_at_bar (consM (persM (varM 0)) (consM (persM (varM 1)) nilM)))) (seqS (exprS (callF f_look_at_roll (consM (persM (varM 2)) nilM))) (seqS (setS 3 (callF f_stretches_by (consM (persM (varM 0)) (consM (persM (varM 1)) (consM (persM (varM 2)) (consM (persM (conM (.int 0))) nilM)))))) (seqS (setS 4 (callF f_stretches_by (consM (persM (varM 0)) (consM (persM (varM 1)) (consM (persM (varM 2)) (consM (persM (conM (.int 1))) nilM)))))) (seqS (setS 5 (lstM nilM)) (seqS l_played_1 (seqS (retS (callM sortD (opd1 (varM 5)))) passS)))))))
def f_played : FSem := runF 12 3 false t_played
end LW

namespace LW
open PySem PySem.Spec PyProof.Rows L2 DL
/-! ### what a bar hears: plain -/
/-- the last tick ahead of which the paper has gone no farther than to a spot -/
noncomputable def tb (g t : Int) (ls : List (Int × Int)) (sp : Int) : Int :=
  open Classical in if h : ∃ k, 0 ≤ k ∧ Fv g t ls k ≤ sp ∧ sp < Fv g t ls (k + 1) then Classical.choose h else 0
noncomputable def ft (g t : Int) (ls : List (Int × Int)) (s : Int) : Int := if s ≤ 0 then 0 else tb g t ls (s - 1) + 1
noncomputable def en (g t : Int) (ls : List (Int × Int)) (s : Int) : Int := tb g t ls s + 1
section
variable {g t : Int} {ls : List (Int × Int)} (h : Dr g t ls)
include h
theorem F_nat : ∀ n : Nat, (n : Int) ≤ Fv g t ls n := fun n => by
  have := F_add h 0 (Int.le_refl _) n
  rw [F_zero h] at this
  have e : (0 : Int) + (n : Int) = (n : Int) := by omega
  rw [e] at this
  omega
theorem tb_ex {sp : Int} (h0 : 0 ≤ sp) : ∃ k, 0 ≤ k ∧ Fv g t ls k ≤ sp ∧ sp < Fv g t ls (k + 1) := by
  have key : ∀ n : Nat, sp < Fv g t ls n → ∃ k, 0 ≤ k ∧ Fv g t ls k ≤ sp ∧ sp < Fv g t ls (k + 1) := by
    intro n
    induction n with
    | zero => intro z; rw [show ((0 : Nat) : Int) = 0 from rfl, F_zero h] at z; omega
    | succ n ih =>
      intro z
      by_cases c : sp < Fv g t ls n
      · exact ih c
      · exact ⟨n, by omega, by omega, by have : ((n + 1 : Nat) : Int) = (n : Int) + 1 := by omega
                                         rw [this] at z; exact z⟩
  have := F_nat h (sp.toNat + 1)
  exact key (sp.toNat + 1) (by omega)
theorem tb_is {sp : Int} (h0 : 0 ≤ sp) : 0 ≤ tb g t ls sp ∧ Fv g t ls (tb g t ls sp) ≤ sp ∧ sp < Fv g t ls (tb g t ls sp + 1) := by
  unfold tb
  have ex := tb_ex h h0
  rw [dif_pos ex]
  exact Classical.choose_spec ex
theorem tb_eq {sp k : Int} (h0 : 0 ≤ sp) (k0 : 0 ≤ k) (k1 : Fv g t ls k ≤ sp) (k2 : sp < Fv g t ls (k + 1)) : tb g t ls sp = k := by
  obtain ⟨a, b, c⟩ := tb_is h h0
  exact F_inj h a k0 b c k1 k2
theorem tick_by_is {sp : Int} (h0 : 0 ≤ sp) (h1 : sp < 1000000000000) : f_tick_by [drvD g t ls, .int sp] = .ok false (.int (tb g t ls sp)) .none := by
  obtain ⟨k, e, k0, k1, k2⟩ := tick_by_ok h h0 h1
  rw [e, tb_eq h h0 k0 k1 k2]
theorem ft_nn (s : Int) : 0 ≤ ft g t ls s := by
  unfold ft
  by_cases c : s ≤ 0
  · rw [if_pos c]; exact Int.le_refl _
  · rw [if_neg c]
    have := (tb_is h (sp := s - 1) (by omega)).1
    omega
theorem ft_le {s n : Int} (hn : 0 ≤ n) : ft g t ls s ≤ n ↔ s ≤ Fv g t ls n := by
  unfold ft
  have f0 : 0 ≤ Fv g t ls n := by
    have := F_mono h (m := 0) (n := n) (Int.le_refl _) hn
    rw [F_zero h] at this; omega
  by_cases c : s ≤ 0
  · rw [if_pos c]; exact ⟨fun _ => by omega, fun _ => hn⟩
  · rw [if_neg c]
    obtain ⟨a, b, d⟩ := tb_is h (sp := s - 1) (by omega)
    constructor
    · intro z
      have := F_mono h (m := tb g t ls (s - 1) + 1) (n := n) (by omega) z
      omega
    · intro z
      refine Decidable.byContradiction fun y => ?_
      have := F_mono h (m := n) (n := tb g t ls (s - 1)) hn (by omega)
      omega
theorem lt_en {s n : Int} (hs : 0 ≤ s) (hn : 0 ≤ n) : n < en g t ls s ↔ Fv g t ls n ≤ s := by
  unfold en
  obtain ⟨a, b, d⟩ := tb_is h hs
  constructor
  · intro z
    have := F_mono h (m := n) (n := tb g t ls s) hn (by omega)
    omega
  · intro z
    refine Decidable.byContradiction fun y => ?_
    have := F_mono h (m := tb g t ls s + 1) (n := n) (by omega) (by omega)
    omega
theorem ft_mono {a b : Int} (hab : a ≤ b) : ft g t ls a ≤ ft g t ls b := (ft_le h (ft_nn h b)).mpr (by
  have := (ft_le h (s := b) (ft_nn h b)).mp (Int.le_refl _)
  omega)
end
/-! stretches put one behind the other -/
def stp (acc : List (Int × Int)) (b e : Int) : List (Int × Int) :=
  if b < e then (match acc.getLast? with
    | some l => if l.2 ≥ b then acc.dropLast ++ [(l.1, if l.2 > e then l.2 else e)] else acc ++ [(b, e)]
    | none => [(b, e)]) else acc
theorem stp_nil (b e : Int) : stp [] b e = if b < e then [(b, e)] else [] := rfl
theorem stp_snoc (pre : List (Int × Int)) (l : Int × Int) (b e : Int) : stp (pre ++ [l]) b e = if b < e then (if l.2 ≥ b then pre ++ [(l.1, if l.2 > e then l.2 else e)] else pre ++ [l] ++ [(b, e)]) else pre ++ [l] := by
  unfold stp
  rw [List.getLast?_concat, List.dropLast_concat]
theorem stp_len (acc : List (Int × Int)) (b e : Int) : (stp acc b e).length ≤ acc.length + 1 := by
  rcases List.eq_nil_or_concat acc with rfl | ⟨pre, l, rfl⟩
  · rw [stp_nil]; split <;> simp
  · rw [List.concat_eq_append, stp_snoc]; split
    · split <;> simp
    · simp
noncomputable def stl (g t : Int) (ls : List (Int × Int)) (w : Int) (hs acc : List (Int × Int)) : List (Int × Int) := hs.foldl (fun acc x => stp acc (ft g t ls (x.1 - w + 1)) (en g t ls x.2)) acc
noncomputable def stz (g t : Int) (ls : List (Int × Int)) (w : Int) (r : List Ho) (lane : Int) : List (Int × Int) := stl g t ls w (laneL r lane) []
theorem stl_len (g t : Int) (ls : List (Int × Int)) (w : Int) : ∀ (hs acc : List (Int × Int)), (stl g t ls w hs acc).length ≤ acc.length + hs.length
  | [], acc => Nat.le_refl _
  | x :: hs, acc => by
    have h1 := stl_len g t ls w hs (stp acc (ft g t ls (x.1 - w + 1)) (en g t ls x.2))
    have h2 := stp_len acc (ft g t ls (x.1 - w + 1)) (en g t ls x.2)
    show (stl g t ls w hs (stp acc _ _)).length ≤ _
    rw [List.length_cons]; omega
/-- in some of the stretches -/
def inS (ss : List (Int × Int)) (n : Int) : Prop := ∃ p ∈ ss, p.1 ≤ n ∧ n < p.2
theorem inS_app {a b : List (Int × Int)} {n : Int} : inS (a ++ b) n ↔ inS a n ∨ inS b n := by
  unfold inS
  constructor
  · rintro ⟨p, hp, h⟩
    rcases List.mem_append.mp hp with z | z
    · exact .inl ⟨p, z, h⟩
    · exact .inr ⟨p, z, h⟩
  · rintro (⟨p, hp, h⟩ | ⟨p, hp, h⟩)
    · exact ⟨p, List.mem_append_left _ hp, h⟩
    · exact ⟨p, List.mem_append_right _ hp, h⟩
theorem inS_one {p : Int × Int} {n : Int} : inS [p] n ↔ p.1 ≤ n ∧ n < p.2 := by
  unfold inS; simp
/-- rising, a tick between two of them -/
structure StOk (ss : List (Int × Int)) : Prop where
  lt : ∀ p ∈ ss, 0 ≤ p.1 ∧ p.1 < p.2
  up : ss.Pairwise fun p q => p.2 < q.1
theorem stp_ok {acc : List (Int × Int)} {b e : Int} (b0 : 0 ≤ b) (ok : StOk acc) (hb : ∀ p ∈ acc, p.1 ≤ b) :
    StOk (stp acc b e) ∧ (∀ p ∈ stp acc b e, p.1 ≤ b) ∧ ∀ n, inS (stp acc b e) n ↔ inS acc n ∨ (b ≤ n ∧ n < e) := by
  rcases List.eq_nil_or_concat acc with rfl | ⟨pre, l, rfl⟩
  · rw [stp_nil]
    by_cases c : b < e
    · rw [if_pos c]
      refine ⟨⟨fun p hp => ?_, List.pairwise_singleton _ _⟩, fun p hp => ?_, fun n => ?_⟩
      · rw [List.mem_singleton.mp hp]; exact ⟨b0, c⟩
      · rw [List.mem_singleton.mp hp]; exact Int.le_refl _
      · rw [inS_one]; exact ⟨.inr, fun z => z.elim (fun ⟨p, hp, _⟩ => by cases hp) id⟩
    · rw [if_neg c]
      exact ⟨ok, hb, fun n => ⟨.inl, fun z => z.elim id fun y => by omega⟩⟩
  · rw [List.concat_eq_append] at ok hb ⊢
    rw [stp_snoc]
    by_cases c : b < e
    · rw [if_pos c]
      obtain ⟨u1, u2, u3⟩ := List.pairwise_append.mp ok.up
      have l0 := ok.lt l (by simp)
      have lb := hb l (by simp)
      by_cases d : l.2 ≥ b
      · rw [if_pos d]
        refine ⟨⟨fun p hp => ?_, List.pairwise_append.mpr ⟨u1, List.pairwise_singleton _ _, fun p hp q hq => ?_⟩⟩, fun p hp => ?_, fun n => ?_⟩
        · rcases List.mem_append.mp hp with z | z
          · exact ok.lt p (List.mem_append_left _ z)
          · rw [List.mem_singleton.mp z]; dsimp only; split <;> omega
        · rw [List.mem_singleton.mp hq]
          exact u3 p hp l (List.mem_singleton.mpr rfl)
        · rcases List.mem_append.mp hp with z | z
          · exact hb p (List.mem_append_left _ z)
          · rw [List.mem_singleton.mp z]; exact lb
        · rw [inS_app, inS_app, inS_one, inS_one]
          dsimp only
          constructor
          · rintro (z | ⟨z1, z2⟩)
            · exact .inl (.inl z)
            · by_cases y : n < l.2
              · exact .inl (.inr ⟨z1, y⟩)
              · refine .inr ⟨by omega, ?_⟩
                split at z2 <;> omega
          · rintro ((z | ⟨z1, z2⟩) | ⟨z1, z2⟩)
            · exact .inl z
            · refine .inr ⟨z1, ?_⟩; split <;> omega
            · refine .inr ⟨by omega, ?_⟩; split <;> omega
      · rw [if_neg d]
        refine ⟨⟨fun p hp => ?_, List.pairwise_append.mpr ⟨ok.up, List.pairwise_singleton _ _, fun p hp q hq => ?_⟩⟩, fun p hp => ?_, fun n => ?_⟩
        · rcases List.mem_append.mp hp with z | z
          · exact ok.lt p z
          · rw [List.mem_singleton.mp z]; exact ⟨b0, c⟩
        · rw [List.mem_singleton.mp hq]
          rcases List.mem_append.mp hp with z | z
          · have := u3 p z l (List.mem_singleton.mpr rfl)
            show p.2 < b; omega
          · rw [List.mem_singleton.mp z]; show l.2 < b; omega
        · rcases List.mem_append.mp hp with z | z
          · exact hb p z
          · rw [List.mem_singleton.mp z]; exact Int.le_refl _
        · rw [inS_app, inS_one]
    · rw [if_neg c]
      exact ⟨ok, hb, fun n => ⟨.inl, fun z => z.elim id fun y => by omega⟩⟩
section
variable {g t : Int} {ls : List (Int × Int)} (h : Dr g t ls)
include h
theorem stl_ok {w : Int} : ∀ (hs acc : List (Int × Int)), (∀ x ∈ hs, 0 ≤ x.2) → (hs.Pairwise fun a b => a.1 ≤ b.1) → StOk acc → (∀ p ∈ acc, ∀ x ∈ hs, p.1 ≤ ft g t ls (x.1 - w + 1)) →
    StOk (stl g t ls w hs acc) ∧ ∀ n, inS (stl g t ls w hs acc) n ↔ inS acc n ∨ ∃ x ∈ hs, ft g t ls (x.1 - w + 1) ≤ n ∧ n < en g t ls x.2
  | [], acc, _, _, ok, _ => ⟨ok, fun n => ⟨.inl, fun z => z.elim id fun ⟨x, hx, _⟩ => by cases hx⟩⟩
  | x :: hs, acc, h2, up, ok, hb => by
    obtain ⟨u1, u2⟩ := List.pairwise_cons.mp up
    obtain ⟨o1, o2, o3⟩ := stp_ok (e := en g t ls x.2) (ft_nn h (x.1 - w + 1)) ok fun p hp => hb p hp x List.mem_cons_self
    obtain ⟨r1, r2⟩ := stl_ok (w := w) hs (stp acc (ft g t ls (x.1 - w + 1)) (en g t ls x.2)) (fun y hy => h2 y (List.mem_cons_of_mem _ hy)) u2 o1 fun p hp y hy => by
      have := o2 p hp
      have := ft_mono h (a := x.1 - w + 1) (b := y.1 - w + 1) (by have := u1 y hy; omega)
      omega
    refine ⟨r1, fun n => (r2 n).trans ?_⟩
    rw [o3]
    constructor
    · rintro ((z | z) | ⟨y, hy, z⟩)
      · exact .inl z
      · exact .inr ⟨x, List.mem_cons_self, z⟩
      · exact .inr ⟨y, List.mem_cons_of_mem _ hy, z⟩
    · rintro (z | ⟨y, hy, z⟩)
      · exact .inl (.inl z)
      · rcases List.mem_cons.mp hy with rfl | hy
        · exact .inl (.inr z)
        · exact .inr ⟨y, hy, z⟩
end
theorem lane_up {r : List Ho} (ok : RollOk r) (lane : Int) : (laneL r lane).Pairwise fun a b => a.2 + 2 ≤ b.1 := by
  unfold laneL
  refine List.pairwise_map.mpr ((List.Pairwise.and_mem.mp (ok.up.sublist List.filter_sublist)).imp fun {a b} ⟨ha, hb, z⟩ => ?_)
  have e1 := of_decide_eq_true (List.mem_filter.mp ha).2
  have e2 := of_decide_eq_true (List.mem_filter.mp hb).2
  unfold gap at z
  omega
theorem lane_mem {r : List Ho} {lane : Int} {x : Int × Int} : x ∈ laneL r lane ↔ (lane, x.1, x.2) ∈ r := by
  unfold laneL
  rw [List.mem_map]
  constructor
  · rintro ⟨p, hp, rfl⟩
    obtain ⟨h1, h2⟩ := List.mem_filter.mp hp
    rw [← of_decide_eq_true h2]; exact h1
  · intro z
    exact ⟨_, List.mem_filter.mpr ⟨z, decide_eq_true rfl⟩, rfl⟩
theorem lane_in {r : List Ho} (ok : RollOk r) {lane : Int} {x : Int × Int} (hx : x ∈ laneL r lane) : 0 ≤ x.1 ∧ x.1 ≤ x.2 ∧ x.2 ≤ 20000 := by
  have := ok.in_ _ (lane_mem.mp hx)
  dsimp only at this
  omega
theorem lane_le {r : List Ho} (ok : RollOk r) (lane : Int) : (laneL r lane).Pairwise fun a b => a.1 ≤ b.1 := (List.Pairwise.and_mem.mp (lane_up ok lane)).imp fun {a b} ⟨ha, hb, z⟩ => by
  have := lane_in ok ha
  omega
theorem lane_len (r : List Ho) (lane : Int) : (laneL r lane).length ≤ r.length := by
  unfold laneL; rw [List.length_map]; exact List.length_filter_le _ _
/-- a lane is open at the ticks of its stretches, and at no other ones -/
theorem stz_ok {g t : Int} {ls : List (Int × Int)} (h : Dr g t ls) {w : Int} {r : List Ho} (ok : RollOk r) (lane : Int) :
    StOk (stz g t ls w r lane) ∧ ∀ n, inS (stz g t ls w r lane) n ↔ 0 ≤ n ∧ ∃ x ∈ laneL r lane, x.1 ≤ Fv g t ls n + w - 1 ∧ Fv g t ls n ≤ x.2 := by
  obtain ⟨r1, r2⟩ := stl_ok h (w := w) (laneL r lane) [] (fun x hx => by have := lane_in ok hx; omega) (lane_le ok lane) ⟨fun p hp => (by cases hp), .nil⟩ fun p hp => (by cases hp)
  refine ⟨r1, fun n => (r2 n).trans ?_⟩
  constructor
  · rintro (⟨p, hp, _⟩ | ⟨x, hx, z1, z2⟩)
    · cases hp
    · have n0 : 0 ≤ n := Int.le_trans (ft_nn h _) z1
      have := lane_in ok hx
      exact ⟨n0, x, hx, by have := (ft_le h n0).mp z1; omega, (lt_en h (by omega) n0).mp z2⟩
  · rintro ⟨n0, x, hx, z1, z2⟩
    have := lane_in ok hx
    exact .inr ⟨x, hx, (ft_le h n0).mpr (by omega), (lt_en h (by omega) n0).mpr z2⟩
end LW

namespace LW
open PySem PySem.Spec PyProof.Rows L2 DL
theorem e_setLast {xs : List PyData} {x d : PyData} : setD (.list (xs ++ [x])) (.int (-1)) d = some (.list (xs ++ [d])) := by
  show (ixN (xs ++ [x]).length (-1)).map (fun j => PyData.list ((xs ++ [x]).set j d)) = _
  rw [ixN_last (by simp)]
  show some (PyData.list _) = _
  rw [List.length_append, List.length_singleton, Nat.add_sub_cancel, List.set_append_right _ _ (Nat.le_refl _), Nat.sub_self]; rfl
theorem ls_snoc {α : Type} [Pln α] (pre : List α) (x : α) : lsD (pre ++ [x]) = .list (pre.map Pln.e ++ [Pln.e x]) := by unfold lsD; rw [List.map_append]; rfl
theorem last_ls {α : Type} [Pln α] (pre : List α) (x : α) : ixD (lsD (pre ++ [x])) (.int (-1)) = some (false, Pln.e x) := by
  rw [ls_snoc, e_lastL, List.getLast?_concat]; rfl
theorem setl_ls {α : Type} [Pln α] (pre : List α) (x y : α) : setD (lsD (pre ++ [x])) (.int (-1)) (Pln.e y) = some (lsD (pre ++ [y])) := by
  rw [ls_snoc, e_setLast, ← ls_snoc]
theorem p2_0 (x : Int × Int) : ixD (Pln.e x) (.int 0) = some (false, .int x.1) := rfl
theorem p2_1 (x : Int × Int) : ixD (Pln.e x) (.int 1) = some (false, .int x.2) := rfl
theorem look_at_bar_ok {g t : Int} {ls : List (Int × Int)} (h : Dr g t ls) {w : Int} (w0 : 1 ≤ w) (w1 : w ≤ 40) : f_look_at_bar [drvD g t ls, .int w] = .ok false .none .none := by
  have hw : f_is_width [.int w] = .ok false (.bool true) .none := by
    refine Eq.trans (run_eq (t := t_is_width) (n := 1) (np := 1) (bor := false) rfl) ?_
    rw [show env0 1 false [.int w] = [some (.pers, .int w)] from rfl]
    unfold t_is_width
    simp only [bd_ok, bd_ex, bd_bad, q_pure, q_optS, q_optN, sq_nx, sq_rt, sq_ex, sq_bad, q_seq, q_pass, of_ok, of_ex, of_bad, q_expr, q_if, q_ret, ret_val, ret_new, q_raise, q_var, sv_pers, sv_own, sv_bor, q_con, q_datV, q_datN, q_datS, sd_some, q_optRS, q_optRN, res_t, res_f, q_bin2, q_un1, q_persM, pr_val, pr_new, pr_slot, sp_own, q_mvM, mv_val, mv_new, mv_slot, sm_own, q_set, q_free, fr_none, fr_pers, fr_own, put_val, put_new, q_not, q_andB, q_orB, q_boolM, br_bool, q_andM, q_orM, q_notM, q_ifM, q_chn2, ch_bool, q_cons, q_nil, q_tup, q_lst, q_opd1, q_opd2, q_callM, q_callF, fr_ok, fr_ex, fr_bad, q_callB, ld_own, ld_bor, fb_ok, fb_ex, q_has, has_some, os_ok, ns_some, ms_own, ms_bor, q_st, mt_some, mu_own, mu_bor, q_mutV, q_ownT, ow_own, ow_bor, q_m1, q_m0, q_tgN, q_tg, q_tgR, to_some, tgT_tup, tgT_lst, tgC_cons, tgN_nil, q_for, q_map1, q_walk, so_list, so_tup, wo_list, wo_tup, e_add, e_sub, e_neg, e_lt, e_gt, e_le, e_ge, e_eq, e_ne, e_isN, e_isnN, e_isB, e_isnB, pk_some, e_ixL, e_ixT, e_lastL, e_lastT, e_part, e_intR, e_noPart, e_slice, e_slL, e_slT, q_par, q_par1, q_par2, po_val, po_new, nx_some, q_getM, q_getE, gate_some, go_int, dat_val, q_pop2, ow_dict, fin_nx, fin_rt, fin_ex, bor_t, bor_f, e_lenL, e_lenT, e_abs, e_min, e_max, e_int, e_intB, e_tupL, e_tupT, e_lstL, e_lstT, e_all, e_any, e_sum, e_isa, e_set0, e_set2, Int.reduceLE, Int.reduceLT, Int.reduceToNat, Int.reduceNeg, Int.le_refl, Int.toNat_zero, List.getElem?_cons_zero, List.getElem?_cons_succ, List.set_cons_zero, List.set_cons_succ, Option.bind_some, Bool.false_eq_true, if_true, if_false, ite_true, ite_false, reduceIte, decide_true, decide_false, Bool.not_true, Bool.not_false, List.map_cons, List.map_nil, List.any_cons, List.any_nil, Bool.or_false, Bool.or_true, Bool.true_or, Bool.false_or, Bool.and_true, Bool.true_and, Bool.false_and, Bool.and_false, within_true w0 w1]
  refine Eq.trans (run_eq (t := t_look_at_bar) (n := 2) (np := 2) (bor := false) rfl) ?_
  rw [show env0 2 false [drvD g t ls, .int w] = [some (.pers, drvD g t ls), some (.pers, .int w)] from rfl]
  unfold t_look_at_bar
  simp only [bd_ok, bd_ex, bd_bad, q_pure, q_optS, q_optN, sq_nx, sq_rt, sq_ex, sq_bad, q_seq, q_pass, of_ok, of_ex, of_bad, q_expr, q_if, q_ret, ret_val, ret_new, q_raise, q_var, sv_pers, sv_own, sv_bor, q_con, q_datV, q_datN, q_datS, sd_some, q_optRS, q_optRN, res_t, res_f, q_bin2, q_un1, q_persM, pr_val, pr_new, pr_slot, sp_own, q_mvM, mv_val, mv_new, mv_slot, sm_own, q_set, q_free, fr_none, fr_pers, fr_own, put_val, put_new, q_not, q_andB, q_orB, q_boolM, br_bool, q_andM, q_orM, q_notM, q_ifM, q_chn2, ch_bool, q_cons, q_nil, q_tup, q_lst, q_opd1, q_opd2, q_callM, q_callF, fr_ok, fr_ex, fr_bad, q_callB, ld_own, ld_bor, fb_ok, fb_ex, q_has, has_some, os_ok, ns_some, ms_own, ms_bor, q_st, mt_some, mu_own, mu_bor, q_mutV, q_ownT, ow_own, ow_bor, q_m1, q_m0, q_tgN, q_tg, q_tgR, to_some, tgT_tup, tgT_lst, tgC_cons, tgN_nil, q_for, q_map1, q_walk, so_list, so_tup, wo_list, wo_tup, e_add, e_sub, e_neg, e_lt, e_gt, e_le, e_ge, e_eq, e_ne, e_isN, e_isnN, e_isB, e_isnB, pk_some, e_ixL, e_ixT, e_lastL, e_lastT, e_part, e_intR, e_noPart, e_slice, e_slL, e_slT, q_par, q_par1, q_par2, po_val, po_new, nx_some, q_getM, q_getE, gate_some, go_int, dat_val, q_pop2, ow_dict, fin_nx, fin_rt, fin_ex, bor_t, bor_f, e_lenL, e_lenT, e_abs, e_min, e_max, e_int, e_intB, e_tupL, e_tupT, e_lstL, e_lstT, e_all, e_any, e_sum, e_isa, e_set0, e_set2, Int.reduceLE, Int.reduceLT, Int.reduceToNat, Int.reduceNeg, Int.le_refl, Int.toNat_zero, List.getElem?_cons_zero, List.getElem?_cons_succ, List.set_cons_zero, List.set_cons_succ, Option.bind_some, Bool.false_eq_true, if_true, if_false, ite_true, ite_false, reduceIte, decide_true, decide_false, Bool.not_true, Bool.not_false, List.map_cons, List.map_nil, List.any_cons, List.any_nil, Bool.or_false, Bool.or_true, Bool.true_or, Bool.false_or, Bool.and_true, Bool.true_and, Bool.false_and, Bool.and_false, look_at_drive_ok h.g0 h.g5 h.t1 h.t5 h.toLv, hw]
section
variable {g t : Int} {ls : List (Int × Int)} (h : Dr g t ls)
include h
theorem first_tick_ok {s : Int} (hs : s < 1000000000) : f_first_tick [drvD g t ls, .int s] = .ok false (.int (ft g t ls s)) .none := by
  refine Eq.trans (run_eq (t := t_first_tick) (n := 2) (np := 2) (bor := false) rfl) ?_
  rw [show env0 2 false [drvD g t ls, .int s] = [some (.pers, drvD g t ls), some (.pers, .int s)] from rfl]
  unfold t_first_tick ft
  by_cases c : s ≤ 0
  · simp only [bd_ok, bd_ex, bd_bad, q_pure, q_optS, q_optN, sq_nx, sq_rt, sq_ex, sq_bad, q_seq, q_pass, of_ok, of_ex, of_bad, q_expr, q_if, q_ret, ret_val, ret_new, q_raise, q_var, sv_pers, sv_own, sv_bor, q_con, q_datV, q_datN, q_datS, sd_some, q_optRS, q_optRN, res_t, res_f, q_bin2, q_un1, q_persM, pr_val, pr_new, pr_slot, sp_own, q_mvM, mv_val, mv_new, mv_slot, sm_own, q_set, q_free, fr_none, fr_pers, fr_own, put_val, put_new, q_not, q_andB, q_orB, q_boolM, br_bool, q_andM, q_orM, q_notM, q_ifM, q_chn2, ch_bool, q_cons, q_nil, q_tup, q_lst, q_opd1, q_opd2, q_callM, q_callF, fr_ok, fr_ex, fr_bad, q_callB, ld_own, ld_bor, fb_ok, fb_ex, q_has, has_some, os_ok, ns_some, ms_own, ms_bor, q_st, mt_some, mu_own, mu_bor, q_mutV, q_ownT, ow_own, ow_bor, q_m1, q_m0, q_tgN, q_tg, q_tgR, to_some, tgT_tup, tgT_lst, tgC_cons, tgN_nil, q_for, q_map1, q_walk, so_list, so_tup, wo_list, wo_tup, e_add, e_sub, e_neg, e_lt, e_gt, e_le, e_ge, e_eq, e_ne, e_isN, e_isnN, e_isB, e_isnB, pk_some, e_ixL, e_ixT, e_lastL, e_lastT, e_part, e_intR, e_noPart, e_slice, e_slL, e_slT, q_par, q_par1, q_par2, po_val, po_new, nx_some, q_getM, q_getE, gate_some, go_int, dat_val, q_pop2, ow_dict, fin_nx, fin_rt, fin_ex, bor_t, bor_f, e_lenL, e_lenT, e_abs, e_min, e_max, e_int, e_intB, e_tupL, e_tupT, e_lstL, e_lstT, e_all, e_any, e_sum, e_isa, e_set0, e_set2, Int.reduceLE, Int.reduceLT, Int.reduceToNat, Int.reduceNeg, Int.le_refl, Int.toNat_zero, List.getElem?_cons_zero, List.getElem?_cons_succ, List.set_cons_zero, List.set_cons_succ, Option.bind_some, Bool.false_eq_true, if_true, if_false, ite_true, ite_false, reduceIte, decide_true, decide_false, Bool.not_true, Bool.not_false, List.map_cons, List.map_nil, List.any_cons, List.any_nil, Bool.or_false, Bool.or_true, Bool.true_or, Bool.false_or, Bool.and_true, Bool.true_and, Bool.false_and, Bool.and_false, c]
  · simp only [bd_ok, bd_ex, bd_bad, q_pure, q_optS, q_optN, sq_nx, sq_rt, sq_ex, sq_bad, q_seq, q_pass, of_ok, of_ex, of_bad, q_expr, q_if, q_ret, ret_val, ret_new, q_raise, q_var, sv_pers, sv_own, sv_bor, q_con, q_datV, q_datN, q_datS, sd_some, q_optRS, q_optRN, res_t, res_f, q_bin2, q_un1, q_persM, pr_val, pr_new, pr_slot, sp_own, q_mvM, mv_val, mv_new, mv_slot, sm_own, q_set, q_free, fr_none, fr_pers, fr_own, put_val, put_new, q_not, q_andB, q_orB, q_boolM, br_bool, q_andM, q_orM, q_notM, q_ifM, q_chn2, ch_bool, q_cons, q_nil, q_tup, q_lst, q_opd1, q_opd2, q_callM, q_callF, fr_ok, fr_ex, fr_bad, q_callB, ld_own, ld_bor, fb_ok, fb_ex, q_has, has_some, os_ok, ns_some, ms_own, ms_bor, q_st, mt_some, mu_own, mu_bor, q_mutV, q_ownT, ow_own, ow_bor, q_m1, q_m0, q_tgN, q_tg, q_tgR, to_some, tgT_tup, tgT_lst, tgC_cons, tgN_nil, q_for, q_map1, q_walk, so_list, so_tup, wo_list, wo_tup, e_add, e_sub, e_neg, e_lt, e_gt, e_le, e_ge, e_eq, e_ne, e_isN, e_isnN, e_isB, e_isnB, pk_some, e_ixL, e_ixT, e_lastL, e_lastT, e_part, e_intR, e_noPart, e_slice, e_slL, e_slT, q_par, q_par1, q_par2, po_val, po_new, nx_some, q_getM, q_getE, gate_some, go_int, dat_val, q_pop2, ow_dict, fin_nx, fin_rt, fin_ex, bor_t, bor_f, e_lenL, e_lenT, e_abs, e_min, e_max, e_int, e_intB, e_tupL, e_tupT, e_lstL, e_lstT, e_all, e_any, e_sum, e_isa, e_set0, e_set2, Int.reduceLE, Int.reduceLT, Int.reduceToNat, Int.reduceNeg, Int.le_refl, Int.toNat_zero, List.getElem?_cons_zero, List.getElem?_cons_succ, List.set_cons_zero, List.set_cons_succ, Option.bind_some, Bool.false_eq_true, if_true, if_false, ite_true, ite_false, reduceIte, decide_true, decide_false, Bool.not_true, Bool.not_false, List.map_cons, List.map_nil, List.any_cons, List.any_nil, Bool.or_false, Bool.or_true, Bool.true_or, Bool.false_or, Bool.and_true, Bool.true_and, Bool.false_and, Bool.and_false, c, tick_by_is h (sp := s - 1) (by omega) (by omega)]
def envSt (d : PyData) (w : Int) (r : List Ho) (lane : Int) (acc : List (Int × Int)) (a b : Option (Kd × PyData)) : DEnv := [some (.pers, d), some (.pers, .int w), some (.pers, tpD r), some (.pers, .int lane), some (.own, lsD acc), a, b, none, none]
theorem body_stretch {w lane : Int} {r : List Ho} {acc : List (Int × Int)} {x : Int × Int} (w0 : 1 ≤ w) (x0 : 0 ≤ x.2) (x1 : x.2 < 1000000) (x2 : x.1 < 1000000) (hl : acc.length < 5000) :
    ∃ b e : Int, lb_stretches_by_0 (envSt (drvD g t ls) w r lane acc (some (.pers, .int x.1)) (some (.pers, .int x.2))) = .nx [some (.pers, drvD g t ls), some (.pers, .int w), some (.pers, tpD r), some (.pers, .int lane), some (.own, lsD (stp acc (ft g t ls (x.1 - w + 1)) (en g t ls x.2))), some (.pers, .int x.1), some (.pers, .int x.2), some (.pers, .int b), some (.pers, .int e)] := by
  have e1 := first_tick_ok h (s := x.1 - w + 1) (by omega)
  have e2 := tick_by_is h x0 (by omega : x.2 < 1000000000000)
  refine ⟨ft g t ls (x.1 - w + 1), en g t ls x.2, ?_⟩
  have e3 : tb g t ls x.2 + 1 = en g t ls x.2 := rfl
  generalize ft g t ls (x.1 - w + 1) = b at e1 ⊢
  generalize en g t ls x.2 = e at e3 ⊢
  have ap : ∀ a : List (Int × Int), a.length < 10000 → appD (lsD a) (.tuple [.int b, .int e]) = some (lsD (a ++ [(b, e)]), .none) := fun a ha => app_ls (a := (b, e)) ha
  unfold lb_stretches_by_0 envSt
  rcases List.eq_nil_or_concat acc with rfl | ⟨pre, l, rfl⟩
  · rw [stp_nil]
    by_cases c : b < e
    · simp only [bd_ok, bd_ex, bd_bad, q_pure, q_optS, q_optN, sq_nx, sq_rt, sq_ex, sq_bad, q_seq, q_pass, of_ok, of_ex, of_bad, q_expr, q_if, q_ret, ret_val, ret_new, q_raise, q_var, sv_pers, sv_own, sv_bor, q_con, q_datV, q_datN, q_datS, sd_some, q_optRS, q_optRN, res_t, res_f, q_bin2, q_un1, q_persM, pr_val, pr_new, pr_slot, sp_own, q_mvM, mv_val, mv_new, mv_slot, sm_own, q_set, q_free, fr_none, fr_pers, fr_own, put_val, put_new, q_not, q_andB, q_orB, q_boolM, br_bool, q_andM, q_orM, q_notM, q_ifM, q_chn2, ch_bool, q_cons, q_nil, q_tup, q_lst, q_opd1, q_opd2, q_callM, q_callF, fr_ok, fr_ex, fr_bad, q_callB, ld_own, ld_bor, fb_ok, fb_ex, q_has, has_some, os_ok, ns_some, ms_own, ms_bor, q_st, mt_some, mu_own, mu_bor, q_mutV, q_ownT, ow_own, ow_bor, q_m1, q_m0, q_tgN, q_tg, q_tgR, to_some, tgT_tup, tgT_lst, tgC_cons, tgN_nil, q_for, q_map1, q_walk, so_list, so_tup, wo_list, wo_tup, e_add, e_sub, e_neg, e_lt, e_gt, e_le, e_ge, e_eq, e_ne, e_isN, e_isnN, e_isB, e_isnB, pk_some, e_ixL, e_ixT, e_lastL, e_lastT, e_part, e_intR, e_noPart, e_slice, e_slL, e_slT, q_par, q_par1, q_par2, po_val, po_new, nx_some, q_getM, q_getE, gate_some, go_int, dat_val, q_pop2, ow_dict, fin_nx, fin_rt, fin_ex, bor_t, bor_f, e_lenL, e_lenT, e_abs, e_min, e_max, e_int, e_intB, e_tupL, e_tupT, e_lstL, e_lstT, e_all, e_any, e_sum, e_isa, e_set0, e_set2, Int.reduceLE, Int.reduceLT, Int.reduceToNat, Int.reduceNeg, Int.le_refl, Int.toNat_zero, List.getElem?_cons_zero, List.getElem?_cons_succ, List.set_cons_zero, List.set_cons_succ, Option.bind_some, Bool.false_eq_true, if_true, if_false, ite_true, ite_false, reduceIte, decide_true, decide_false, Bool.not_true, Bool.not_false, List.map_cons, List.map_nil, List.any_cons, List.any_nil, Bool.or_false, Bool.or_true, Bool.true_or, Bool.false_or, Bool.and_true, Bool.true_and, Bool.false_and, Bool.and_false, e1, e2, e3, c, neD_ls0, ap [] (by decide), show ownO "list" (some (some (Kd.own, lsD ([] : List (Int × Int))))) = true from rfl]
      rfl
    · simp only [bd_ok, bd_ex, bd_bad, q_pure, q_optS, q_optN, sq_nx, sq_rt, sq_ex, sq_bad, q_seq, q_pass, of_ok, of_ex, of_bad, q_expr, q_if, q_ret, ret_val, ret_new, q_raise, q_var, sv_pers, sv_own, sv_bor, q_con, q_datV, q_datN, q_datS, sd_some, q_optRS, q_optRN, res_t, res_f, q_bin2, q_un1, q_persM, pr_val, pr_new, pr_slot, sp_own, q_mvM, mv_val, mv_new, mv_slot, sm_own, q_set, q_free, fr_none, fr_pers, fr_own, put_val, put_new, q_not, q_andB, q_orB, q_boolM, br_bool, q_andM, q_orM, q_notM, q_ifM, q_chn2, ch_bool, q_cons, q_nil, q_tup, q_lst, q_opd1, q_opd2, q_callM, q_callF, fr_ok, fr_ex, fr_bad, q_callB, ld_own, ld_bor, fb_ok, fb_ex, q_has, has_some, os_ok, ns_some, ms_own, ms_bor, q_st, mt_some, mu_own, mu_bor, q_mutV, q_ownT, ow_own, ow_bor, q_m1, q_m0, q_tgN, q_tg, q_tgR, to_some, tgT_tup, tgT_lst, tgC_cons, tgN_nil, q_for, q_map1, q_walk, so_list, so_tup, wo_list, wo_tup, e_add, e_sub, e_neg, e_lt, e_gt, e_le, e_ge, e_eq, e_ne, e_isN, e_isnN, e_isB, e_isnB, pk_some, e_ixL, e_ixT, e_lastL, e_lastT, e_part, e_intR, e_noPart, e_slice, e_slL, e_slT, q_par, q_par1, q_par2, po_val, po_new, nx_some, q_getM, q_getE, gate_some, go_int, dat_val, q_pop2, ow_dict, fin_nx, fin_rt, fin_ex, bor_t, bor_f, e_lenL, e_lenT, e_abs, e_min, e_max, e_int, e_intB, e_tupL, e_tupT, e_lstL, e_lstT, e_all, e_any, e_sum, e_isa, e_set0, e_set2, Int.reduceLE, Int.reduceLT, Int.reduceToNat, Int.reduceNeg, Int.le_refl, Int.toNat_zero, List.getElem?_cons_zero, List.getElem?_cons_succ, List.set_cons_zero, List.set_cons_succ, Option.bind_some, Bool.false_eq_true, if_true, if_false, ite_true, ite_false, reduceIte, decide_true, decide_false, Bool.not_true, Bool.not_false, List.map_cons, List.map_nil, List.any_cons, List.any_nil, Bool.or_false, Bool.or_true, Bool.true_or, Bool.false_or, Bool.and_true, Bool.true_and, Bool.false_and, Bool.and_false, e1, e2, e3, c]
  · rw [List.concat_eq_append] at hl ⊢
    rw [stp_snoc]
    have ne : ¬ (pre ++ [l] = []) := by simp
    by_cases c : b < e
    · by_cases d : l.2 ≥ b
      · have st : setD (lsD (pre ++ [l])) (.int (-1)) (.tuple [.int l.1, .int (if l.2 > e then l.2 else e)]) = some (lsD (pre ++ [(l.1, if l.2 > e then l.2 else e)])) := setl_ls pre l (l.1, if l.2 > e then l.2 else e)
        simp only [bd_ok, bd_ex, bd_bad, q_pure, q_optS, q_optN, sq_nx, sq_rt, sq_ex, sq_bad, q_seq, q_pass, of_ok, of_ex, of_bad, q_expr, q_if, q_ret, ret_val, ret_new, q_raise, q_var, sv_pers, sv_own, sv_bor, q_con, q_datV, q_datN, q_datS, sd_some, q_optRS, q_optRN, res_t, res_f, q_bin2, q_un1, q_persM, pr_val, pr_new, pr_slot, sp_own, q_mvM, mv_val, mv_new, mv_slot, sm_own, q_set, q_free, fr_none, fr_pers, fr_own, put_val, put_new, q_not, q_andB, q_orB, q_boolM, br_bool, q_andM, q_orM, q_notM, q_ifM, q_chn2, ch_bool, q_cons, q_nil, q_tup, q_lst, q_opd1, q_opd2, q_callM, q_callF, fr_ok, fr_ex, fr_bad, q_callB, ld_own, ld_bor, fb_ok, fb_ex, q_has, has_some, os_ok, ns_some, ms_own, ms_bor, q_st, mt_some, mu_own, mu_bor, q_mutV, q_ownT, ow_own, ow_bor, q_m1, q_m0, q_tgN, q_tg, q_tgR, to_some, tgT_tup, tgT_lst, tgC_cons, tgN_nil, q_for, q_map1, q_walk, so_list, so_tup, wo_list, wo_tup, e_add, e_sub, e_neg, e_lt, e_gt, e_le, e_ge, e_eq, e_ne, e_isN, e_isnN, e_isB, e_isnB, pk_some, e_ixL, e_ixT, e_lastL, e_lastT, e_part, e_intR, e_noPart, e_slice, e_slL, e_slT, q_par, q_par1, q_par2, po_val, po_new, nx_some, q_getM, q_getE, gate_some, go_int, dat_val, q_pop2, ow_dict, fin_nx, fin_rt, fin_ex, bor_t, bor_f, e_lenL, e_lenT, e_abs, e_min, e_max, e_int, e_intB, e_tupL, e_tupT, e_lstL, e_lstT, e_all, e_any, e_sum, e_isa, e_set0, e_set2, Int.reduceLE, Int.reduceLT, Int.reduceToNat, Int.reduceNeg, Int.le_refl, Int.toNat_zero, List.getElem?_cons_zero, List.getElem?_cons_succ, List.set_cons_zero, List.set_cons_succ, Option.bind_some, Bool.false_eq_true, if_true, if_false, ite_true, ite_false, reduceIte, decide_true, decide_false, Bool.not_true, Bool.not_false, List.map_cons, List.map_nil, List.any_cons, List.any_nil, Bool.or_false, Bool.or_true, Bool.true_or, Bool.false_or, Bool.and_true, Bool.true_and, Bool.false_and, Bool.and_false, e1, e2, e3, c, neD_ls0, ne, last_ls, p2_0, p2_1, d, st]
      · simp only [bd_ok, bd_ex, bd_bad, q_pure, q_optS, q_optN, sq_nx, sq_rt, sq_ex, sq_bad, q_seq, q_pass, of_ok, of_ex, of_bad, q_expr, q_if, q_ret, ret_val, ret_new, q_raise, q_var, sv_pers, sv_own, sv_bor, q_con, q_datV, q_datN, q_datS, sd_some, q_optRS, q_optRN, res_t, res_f, q_bin2, q_un1, q_persM, pr_val, pr_new, pr_slot, sp_own, q_mvM, mv_val, mv_new, mv_slot, sm_own, q_set, q_free, fr_none, fr_pers, fr_own, put_val, put_new, q_not, q_andB, q_orB, q_boolM, br_bool, q_andM, q_orM, q_notM, q_ifM, q_chn2, ch_bool, q_cons, q_nil, q_tup, q_lst, q_opd1, q_opd2, q_callM, q_callF, fr_ok, fr_ex, fr_bad, q_callB, ld_own, ld_bor, fb_ok, fb_ex, q_has, has_some, os_ok, ns_some, ms_own, ms_bor, q_st, mt_some, mu_own, mu_bor, q_mutV, q_ownT, ow_own, ow_bor, q_m1, q_m0, q_tgN, q_tg, q_tgR, to_some, tgT_tup, tgT_lst, tgC_cons, tgN_nil, q_for, q_map1, q_walk, so_list, so_tup, wo_list, wo_tup, e_add, e_sub, e_neg, e_lt, e_gt, e_le, e_ge, e_eq, e_ne, e_isN, e_isnN, e_isB, e_isnB, pk_some, e_ixL, e_ixT, e_lastL, e_lastT, e_part, e_intR, e_noPart, e_slice, e_slL, e_slT, q_par, q_par1, q_par2, po_val, po_new, nx_some, q_getM, q_getE, gate_some, go_int, dat_val, q_pop2, ow_dict, fin_nx, fin_rt, fin_ex, bor_t, bor_f, e_lenL, e_lenT, e_abs, e_min, e_max, e_int, e_intB, e_tupL, e_tupT, e_lstL, e_lstT, e_all, e_any, e_sum, e_isa, e_set0, e_set2, Int.reduceLE, Int.reduceLT, Int.reduceToNat, Int.reduceNeg, Int.le_refl, Int.toNat_zero, List.getElem?_cons_zero, List.getElem?_cons_succ, List.set_cons_zero, List.set_cons_succ, Option.bind_some, Bool.false_eq_true, if_true, if_false, ite_true, ite_false, reduceIte, decide_true, decide_false, Bool.not_true, Bool.not_false, List.map_cons, List.map_nil, List.any_cons, List.any_nil, Bool.or_false, Bool.or_true, Bool.true_or, Bool.false_or, Bool.and_true, Bool.true_and, Bool.false_and, Bool.and_false, e1, e2, e3, c, neD_ls0, ne, last_ls, p2_1, d, ap (pre ++ [l]) (by omega), show ownO "list" (some (some (Kd.own, lsD (pre ++ [l])))) = true from rfl]
    · simp only [bd_ok, bd_ex, bd_bad, q_pure, q_optS, q_optN, sq_nx, sq_rt, sq_ex, sq_bad, q_seq, q_pass, of_ok, of_ex, of_bad, q_expr, q_if, q_ret, ret_val, ret_new, q_raise, q_var, sv_pers, sv_own, sv_bor, q_con, q_datV, q_datN, q_datS, sd_some, q_optRS, q_optRN, res_t, res_f, q_bin2, q_un1, q_persM, pr_val, pr_new, pr_slot, sp_own, q_mvM, mv_val, mv_new, mv_slot, sm_own, q_set, q_free, fr_none, fr_pers, fr_own, put_val, put_new, q_not, q_andB, q_orB, q_boolM, br_bool, q_andM, q_orM, q_notM, q_ifM, q_chn2, ch_bool, q_cons, q_nil, q_tup, q_lst, q_opd1, q_opd2, q_callM, q_callF, fr_ok, fr_ex, fr_bad, q_callB, ld_own, ld_bor, fb_ok, fb_ex, q_has, has_some, os_ok, ns_some, ms_own, ms_bor, q_st, mt_some, mu_own, mu_bor, q_mutV, q_ownT, ow_own, ow_bor, q_m1, q_m0, q_tgN, q_tg, q_tgR, to_some, tgT_tup, tgT_lst, tgC_cons, tgN_nil, q_for, q_map1, q_walk, so_list, so_tup, wo_list, wo_tup, e_add, e_sub, e_neg, e_lt, e_gt, e_le, e_ge, e_eq, e_ne, e_isN, e_isnN, e_isB, e_isnB, pk_some, e_ixL, e_ixT, e_lastL, e_lastT, e_part, e_intR, e_noPart, e_slice, e_slL, e_slT, q_par, q_par1, q_par2, po_val, po_new, nx_some, q_getM, q_getE, gate_some, go_int, dat_val, q_pop2, ow_dict, fin_nx, fin_rt, fin_ex, bor_t, bor_f, e_lenL, e_lenT, e_abs, e_min, e_max, e_int, e_intB, e_tupL, e_tupT, e_lstL, e_lstT, e_all, e_any, e_sum, e_isa, e_set0, e_set2, Int.reduceLE, Int.reduceLT, Int.reduceToNat, Int.reduceNeg, Int.le_refl, Int.toNat_zero, List.getElem?_cons_zero, List.getElem?_cons_succ, List.set_cons_zero, List.set_cons_succ, Option.bind_some, Bool.false_eq_true, if_true, if_false, ite_true, ite_false, reduceIte, decide_true, decide_false, Bool.not_true, Bool.not_false, List.map_cons, List.map_nil, List.any_cons, List.any_nil, Bool.or_false, Bool.or_true, Bool.true_or, Bool.false_or, Bool.and_true, Bool.true_and, Bool.false_and, Bool.and_false, e1, e2, e3, c]
theorem loop_stretch {w lane : Int} {r : List Ho} (w0 : 1 ≤ w) : ∀ (hs acc : List (Int × Int)), (∀ x ∈ hs, 0 ≤ x.2 ∧ x.2 < 1000000 ∧ x.1 < 1000000) → acc.length + hs.length < 5000 →
    loopS (tgT (tgCons (tgN 5) (tgCons (tgN 6) tgNil))) lb_stretches_by_0 [5, 6, 7, 8] (hs.map Pln.e) (envSt (drvD g t ls) w r lane acc none none) = .nx (envSt (drvD g t ls) w r lane (stl g t ls w hs acc) none none)
  | [], acc, _, _ => rfl
  | x :: hs, acc, hx, hl => by
    rw [List.length_cons] at hl
    obtain ⟨a0, a1, a2⟩ := hx x List.mem_cons_self
    obtain ⟨b, e, e1⟩ := body_stretch h (lane := lane) (r := r) (acc := acc) w0 a0 a1 a2 (by omega)
    have l2 := stp_len acc (ft g t ls (x.1 - w + 1)) (en g t ls x.2)
    rw [List.map_cons]
    unfold loopS
    rw [show tgT (tgCons (tgN 5) (tgCons (tgN 6) tgNil)) (Pln.e x) (envSt (drvD g t ls) w r lane acc none none) = some (envSt (drvD g t ls) w r lane acc (some (.pers, .int x.1)) (some (.pers, .int x.2))) from rfl]
    dsimp only
    rw [e1]
    exact loop_stretch w0 hs _ (fun y hy => hx y (List.mem_cons_of_mem _ hy)) (by omega)
theorem stretches_by_ok {w lane : Int} {r : List Ho} (w0 : 1 ≤ w) (ok : RollOk r) : f_stretches_by [drvD g t ls, .int w, tpD r, .int lane] = .ok true (lsD (stz g t ls w r lane)) .none := by
  refine Eq.trans (run_eq (t := t_stretches_by) (n := 9) (np := 4) (bor := false) rfl) ?_
  rw [show env0 9 false [drvD g t ls, .int w, tpD r, .int lane] = [some (.pers, drvD g t ls), some (.pers, .int w), some (.pers, tpD r), some (.pers, .int lane), none, none, none, none, none] from rfl]
  have hl := lane_len r lane
  have hr := ok.len
  have e := loop_stretch h (lane := lane) (r := r) w0 (laneL r lane) [] (fun x hx => by have := lane_in ok hx; omega) (by show 0 + _ < 5000; omega)
  unfold envSt at e
  rw [show stl g t ls w (laneL r lane) [] = stz g t ls w r lane from rfl] at e
  unfold t_stretches_by l_stretches_by_0
  simp only [bd_ok, bd_ex, bd_bad, q_pure, q_optS, q_optN, sq_nx, sq_rt, sq_ex, sq_bad, q_seq, q_pass, of_ok, of_ex, of_bad, q_expr, q_if, q_ret, ret_val, ret_new, q_raise, q_var, sv_pers, sv_own, sv_bor, q_con, q_datV, q_datN, q_datS, sd_some, q_optRS, q_optRN, res_t, res_f, q_bin2, q_un1, q_persM, pr_val, pr_new, pr_slot, sp_own, q_mvM, mv_val, mv_new, mv_slot, sm_own, q_set, q_free, fr_none, fr_pers, fr_own, put_val, put_new, q_not, q_andB, q_orB, q_boolM, br_bool, q_andM, q_orM, q_notM, q_ifM, q_chn2, ch_bool, q_cons, q_nil, q_tup, q_lst, q_opd1, q_opd2, q_callM, q_callF, fr_ok, fr_ex, fr_bad, q_callB, ld_own, ld_bor, fb_ok, fb_ex, q_has, has_some, os_ok, ns_some, ms_own, ms_bor, q_st, mt_some, mu_own, mu_bor, q_mutV, q_ownT, ow_own, ow_bor, q_m1, q_m0, q_tgN, q_tg, q_tgR, to_some, tgT_tup, tgT_lst, tgC_cons, tgN_nil, q_for, q_map1, q_walk, so_list, so_tup, wo_list, wo_tup, e_add, e_sub, e_neg, e_lt, e_gt, e_le, e_ge, e_eq, e_ne, e_isN, e_isnN, e_isB, e_isnB, pk_some, e_ixL, e_ixT, e_lastL, e_lastT, e_part, e_intR, e_noPart, e_slice, e_slL, e_slT, q_par, q_par1, q_par2, po_val, po_new, nx_some, q_getM, q_getE, gate_some, go_int, dat_val, q_pop2, ow_dict, fin_nx, fin_rt, fin_ex, bor_t, bor_f, e_lenL, e_lenT, e_abs, e_min, e_max, e_int, e_intB, e_tupL, e_tupT, e_lstL, e_lstT, e_all, e_any, e_sum, e_isa, e_set0, e_set2, Int.reduceLE, Int.reduceLT, Int.reduceToNat, Int.reduceNeg, Int.le_refl, Int.toNat_zero, List.getElem?_cons_zero, List.getElem?_cons_succ, List.set_cons_zero, List.set_cons_succ, Option.bind_some, Bool.false_eq_true, if_true, if_false, ite_true, ite_false, reduceIte, decide_true, decide_false, Bool.not_true, Bool.not_false, List.map_cons, List.map_nil, List.any_cons, List.any_nil, Bool.or_false, Bool.or_true, Bool.true_or, Bool.false_or, Bool.and_true, Bool.true_and, Bool.false_and, Bool.and_false, lane_of_ok (lane := lane) (show r.length ≤ 1000 by omega), show PyData.list [] = lsD ([] : List (Int × Int)) from rfl, show walkO (lsD (laneL r lane)) = some ((laneL r lane).map Pln.e) from rfl, e]
  rfl
theorem stretches_ok {w lane : Int} {r : List Ho} (w0 : 1 ≤ w) (w1 : w ≤ 40) (ok : RollOk r) (l0 : 0 ≤ lane) (l1 : lane ≤ 19) : f_stretches [drvD g t ls, .int w, tpD r, .int lane] = .ok true (lsD (stz g t ls w r lane)) .none := by
  refine Eq.trans (run_eq (t := t_stretches) (n := 4) (np := 4) (bor := false) rfl) ?_
  rw [show env0 4 false [drvD g t ls, .int w, tpD r, .int lane] = [some (.pers, drvD g t ls), some (.pers, .int w), some (.pers, tpD r), some (.pers, .int lane)] from rfl]
  unfold t_stretches
  simp only [bd_ok, bd_ex, bd_bad, q_pure, q_optS, q_optN, sq_nx, sq_rt, sq_ex, sq_bad, q_seq, q_pass, of_ok, of_ex, of_bad, q_expr, q_if, q_ret, ret_val, ret_new, q_raise, q_var, sv_pers, sv_own, sv_bor, q_con, q_datV, q_datN, q_datS, sd_some, q_optRS, q_optRN, res_t, res_f, q_bin2, q_un1, q_persM, pr_val, pr_new, pr_slot, sp_own, q_mvM, mv_val, mv_new, mv_slot, sm_own, q_set, q_free, fr_none, fr_pers, fr_own, put_val, put_new, q_not, q_andB, q_orB, q_boolM, br_bool, q_andM, q_orM, q_notM, q_ifM, q_chn2, ch_bool, q_cons, q_nil, q_tup, q_lst, q_opd1, q_opd2, q_callM, q_callF, fr_ok, fr_ex, fr_bad, q_callB, ld_own, ld_bor, fb_ok, fb_ex, q_has, has_some, os_ok, ns_some, ms_own, ms_bor, q_st, mt_some, mu_own, mu_bor, q_mutV, q_ownT, ow_own, ow_bor, q_m1, q_m0, q_tgN, q_tg, q_tgR, to_some, tgT_tup, tgT_lst, tgC_cons, tgN_nil, q_for, q_map1, q_walk, so_list, so_tup, wo_list, wo_tup, e_add, e_sub, e_neg, e_lt, e_gt, e_le, e_ge, e_eq, e_ne, e_isN, e_isnN, e_isB, e_isnB, pk_some, e_ixL, e_ixT, e_lastL, e_lastT, e_part, e_intR, e_noPart, e_slice, e_slL, e_slT, q_par, q_par1, q_par2, po_val, po_new, nx_some, q_getM, q_getE, gate_some, go_int, dat_val, q_pop2, ow_dict, fin_nx, fin_rt, fin_ex, bor_t, bor_f, e_lenL, e_lenT, e_abs, e_min, e_max, e_int, e_intB, e_tupL, e_tupT, e_lstL, e_lstT, e_all, e_any, e_sum, e_isa, e_set0, e_set2, Int.reduceLE, Int.reduceLT, Int.reduceToNat, Int.reduceNeg, Int.le_refl, Int.toNat_zero, List.getElem?_cons_zero, List.getElem?_cons_succ, List.set_cons_zero, List.set_cons_succ, Option.bind_some, Bool.false_eq_true, if_true, if_false, ite_true, ite_false, reduceIte, decide_true, decide_false, Bool.not_true, Bool.not_false, List.map_cons, List.map_nil, List.any_cons, List.any_nil, Bool.or_false, Bool.or_true, Bool.true_or, Bool.false_or, Bool.and_true, Bool.true_and, Bool.false_and, Bool.and_false, look_at_bar_ok h w0 w1, look_at_roll_ok ok, is_lane_g, inI_true l0 l1, stretches_by_ok h w0 ok]
end
/-! ### played -/
def isin (ss : List (Int × Int)) (n : Int) : Bool := (ss.map fun p => decide (p.1 ≤ n) && decide (n < p.2)).any id
theorem is_in_ok {ss : List (Int × Int)} {n : Int} (hl : ss.length ≤ 1000) : f_is_in [lsD ss, .int n] = .ok false (.bool (isin ss n)) .none := by
  refine Eq.trans (run_eq (t := t_is_in) (n := 4) (np := 2) (bor := false) rfl) ?_
  rw [show env0 4 false [lsD ss, .int n] = [some (.pers, lsD ss), some (.pers, .int n), none, none] from rfl]
  have c0 : c_is_in_0 [some (.pers, lsD ss), some (.pers, .int n), none, none] = .ok (.new (.list ((ss.map fun p => decide (p.1 ≤ n) && decide (n < p.2)).map .bool))) [some (.pers, lsD ss), some (.pers, .int n), none, none] := by
    rw [List.map_map]
    refine lcm_enc Pln.e ss _ (by simp only [bd_ok, bd_ex, bd_bad, q_pure, q_optS, q_optN, sq_nx, sq_rt, sq_ex, sq_bad, q_seq, q_pass, of_ok, of_ex, of_bad, q_expr, q_if, q_ret, ret_val, ret_new, q_raise, q_var, sv_pers, sv_own, sv_bor, q_con, q_datV, q_datN, q_datS, sd_some, q_optRS, q_optRN, res_t, res_f, q_bin2, q_un1, q_persM, pr_val, pr_new, pr_slot, sp_own, q_mvM, mv_val, mv_new, mv_slot, sm_own, q_set, q_free, fr_none, fr_pers, fr_own, put_val, put_new, q_not, q_andB, q_orB, q_boolM, br_bool, q_andM, q_orM, q_notM, q_ifM, q_chn2, ch_bool, q_cons, q_nil, q_tup, q_lst, q_opd1, q_opd2, q_callM, q_callF, fr_ok, fr_ex, fr_bad, q_callB, ld_own, ld_bor, fb_ok, fb_ex, q_has, has_some, os_ok, ns_some, ms_own, ms_bor, q_st, mt_some, mu_own, mu_bor, q_mutV, q_ownT, ow_own, ow_bor, q_m1, q_m0, q_tgN, q_tg, q_tgR, to_some, tgT_tup, tgT_lst, tgC_cons, tgN_nil, q_for, q_map1, q_walk, so_list, so_tup, wo_list, wo_tup, e_add, e_sub, e_neg, e_lt, e_gt, e_le, e_ge, e_eq, e_ne, e_isN, e_isnN, e_isB, e_isnB, pk_some, e_ixL, e_ixT, e_lastL, e_lastT, e_part, e_intR, e_noPart, e_slice, e_slL, e_slT, q_par, q_par1, q_par2, po_val, po_new, nx_some, q_getM, q_getE, gate_some, go_int, dat_val, q_pop2, ow_dict, fin_nx, fin_rt, fin_ex, bor_t, bor_f, e_lenL, e_lenT, e_abs, e_min, e_max, e_int, e_intB, e_tupL, e_tupT, e_lstL, e_lstT, e_all, e_any, e_sum, e_isa, e_set0, e_set2, Int.reduceLE, Int.reduceLT, Int.reduceToNat, Int.reduceNeg, Int.le_refl, Int.toNat_zero, List.getElem?_cons_zero, List.getElem?_cons_succ, List.set_cons_zero, List.set_cons_succ, Option.bind_some, Bool.false_eq_true, if_true, if_false, ite_true, ite_false, reduceIte, decide_true, decide_false, Bool.not_true, Bool.not_false, List.map_cons, List.map_nil, List.any_cons, List.any_nil, Bool.or_false, Bool.or_true, Bool.true_or, Bool.false_or, Bool.and_true, Bool.true_and, Bool.false_and, Bool.and_false, show walkO (lsD ss) = some (ss.map Pln.e) from rfl]) rfl (line20 hl) fun x hx => ?_
    refine ⟨[some (.pers, lsD ss), some (.pers, .int n), some (.pers, .int x.1), some (.pers, .int x.2)], [some (.pers, lsD ss), some (.pers, .int n), some (.pers, .int x.1), some (.pers, .int x.2)], rfl, ?_, rfl⟩
    unfold ce_is_in_0
    by_cases a : x.1 ≤ n
    · simp only [bd_ok, bd_ex, bd_bad, q_pure, q_optS, q_optN, sq_nx, sq_rt, sq_ex, sq_bad, q_seq, q_pass, of_ok, of_ex, of_bad, q_expr, q_if, q_ret, ret_val, ret_new, q_raise, q_var, sv_pers, sv_own, sv_bor, q_con, q_datV, q_datN, q_datS, sd_some, q_optRS, q_optRN, res_t, res_f, q_bin2, q_un1, q_persM, pr_val, pr_new, pr_slot, sp_own, q_mvM, mv_val, mv_new, mv_slot, sm_own, q_set, q_free, fr_none, fr_pers, fr_own, put_val, put_new, q_not, q_andB, q_orB, q_boolM, br_bool, q_andM, q_orM, q_notM, q_ifM, q_chn2, ch_bool, q_cons, q_nil, q_tup, q_lst, q_opd1, q_opd2, q_callM, q_callF, fr_ok, fr_ex, fr_bad, q_callB, ld_own, ld_bor, fb_ok, fb_ex, q_has, has_some, os_ok, ns_some, ms_own, ms_bor, q_st, mt_some, mu_own, mu_bor, q_mutV, q_ownT, ow_own, ow_bor, q_m1, q_m0, q_tgN, q_tg, q_tgR, to_some, tgT_tup, tgT_lst, tgC_cons, tgN_nil, q_for, q_map1, q_walk, so_list, so_tup, wo_list, wo_tup, e_add, e_sub, e_neg, e_lt, e_gt, e_le, e_ge, e_eq, e_ne, e_isN, e_isnN, e_isB, e_isnB, pk_some, e_ixL, e_ixT, e_lastL, e_lastT, e_part, e_intR, e_noPart, e_slice, e_slL, e_slT, q_par, q_par1, q_par2, po_val, po_new, nx_some, q_getM, q_getE, gate_some, go_int, dat_val, q_pop2, ow_dict, fin_nx, fin_rt, fin_ex, bor_t, bor_f, e_lenL, e_lenT, e_abs, e_min, e_max, e_int, e_intB, e_tupL, e_tupT, e_lstL, e_lstT, e_all, e_any, e_sum, e_isa, e_set0, e_set2, Int.reduceLE, Int.reduceLT, Int.reduceToNat, Int.reduceNeg, Int.le_refl, Int.toNat_zero, List.getElem?_cons_zero, List.getElem?_cons_succ, List.set_cons_zero, List.set_cons_succ, Option.bind_some, Bool.false_eq_true, if_true, if_false, ite_true, ite_false, reduceIte, decide_true, decide_false, Bool.not_true, Bool.not_false, List.map_cons, List.map_nil, List.any_cons, List.any_nil, Bool.or_false, Bool.or_true, Bool.true_or, Bool.false_or, Bool.and_true, Bool.true_and, Bool.false_and, Bool.and_false, a, Function.comp]
    · simp only [bd_ok, bd_ex, bd_bad, q_pure, q_optS, q_optN, sq_nx, sq_rt, sq_ex, sq_bad, q_seq, q_pass, of_ok, of_ex, of_bad, q_expr, q_if, q_ret, ret_val, ret_new, q_raise, q_var, sv_pers, sv_own, sv_bor, q_con, q_datV, q_datN, q_datS, sd_some, q_optRS, q_optRN, res_t, res_f, q_bin2, q_un1, q_persM, pr_val, pr_new, pr_slot, sp_own, q_mvM, mv_val, mv_new, mv_slot, sm_own, q_set, q_free, fr_none, fr_pers, fr_own, put_val, put_new, q_not, q_andB, q_orB, q_boolM, br_bool, q_andM, q_orM, q_notM, q_ifM, q_chn2, ch_bool, q_cons, q_nil, q_tup, q_lst, q_opd1, q_opd2, q_callM, q_callF, fr_ok, fr_ex, fr_bad, q_callB, ld_own, ld_bor, fb_ok, fb_ex, q_has, has_some, os_ok, ns_some, ms_own, ms_bor, q_st, mt_some, mu_own, mu_bor, q_mutV, q_ownT, ow_own, ow_bor, q_m1, q_m0, q_tgN, q_tg, q_tgR, to_some, tgT_tup, tgT_lst, tgC_cons, tgN_nil, q_for, q_map1, q_walk, so_list, so_tup, wo_list, wo_tup, e_add, e_sub, e_neg, e_lt, e_gt, e_le, e_ge, e_eq, e_ne, e_isN, e_isnN, e_isB, e_isnB, pk_some, e_ixL, e_ixT, e_lastL, e_lastT, e_part, e_intR, e_noPart, e_slice, e_slL, e_slT, q_par, q_par1, q_par2, po_val, po_new, nx_some, q_getM, q_getE, gate_some, go_int, dat_val, q_pop2, ow_dict, fin_nx, fin_rt, fin_ex, bor_t, bor_f, e_lenL, e_lenT, e_abs, e_min, e_max, e_int, e_intB, e_tupL, e_tupT, e_lstL, e_lstT, e_all, e_any, e_sum, e_isa, e_set0, e_set2, Int.reduceLE, Int.reduceLT, Int.reduceToNat, Int.reduceNeg, Int.le_refl, Int.toNat_zero, List.getElem?_cons_zero, List.getElem?_cons_succ, List.set_cons_zero, List.set_cons_succ, Option.bind_some, Bool.false_eq_true, if_true, if_false, ite_true, ite_false, reduceIte, decide_true, decide_false, Bool.not_true, Bool.not_false, List.map_cons, List.map_nil, List.any_cons, List.any_nil, Bool.or_false, Bool.or_true, Bool.true_or, Bool.false_or, Bool.and_true, Bool.true_and, Bool.false_and, Bool.and_false, a, Function.comp]
  unfold t_is_in
  simp only [bd_ok, bd_ex, bd_bad, q_pure, q_optS, q_optN, sq_nx, sq_rt, sq_ex, sq_bad, q_seq, q_pass, of_ok, of_ex, of_bad, q_expr, q_if, q_ret, ret_val, ret_new, q_raise, q_var, sv_pers, sv_own, sv_bor, q_con, q_datV, q_datN, q_datS, sd_some, q_optRS, q_optRN, res_t, res_f, q_bin2, q_un1, q_persM, pr_val, pr_new, pr_slot, sp_own, q_mvM, mv_val, mv_new, mv_slot, sm_own, q_set, q_free, fr_none, fr_pers, fr_own, put_val, put_new, q_not, q_andB, q_orB, q_boolM, br_bool, q_andM, q_orM, q_notM, q_ifM, q_chn2, ch_bool, q_cons, q_nil, q_tup, q_lst, q_opd1, q_opd2, q_callM, q_callF, fr_ok, fr_ex, fr_bad, q_callB, ld_own, ld_bor, fb_ok, fb_ex, q_has, has_some, os_ok, ns_some, ms_own, ms_bor, q_st, mt_some, mu_own, mu_bor, q_mutV, q_ownT, ow_own, ow_bor, q_m1, q_m0, q_tgN, q_tg, q_tgR, to_some, tgT_tup, tgT_lst, tgC_cons, tgN_nil, q_for, q_map1, q_walk, so_list, so_tup, wo_list, wo_tup, e_add, e_sub, e_neg, e_lt, e_gt, e_le, e_ge, e_eq, e_ne, e_isN, e_isnN, e_isB, e_isnB, pk_some, e_ixL, e_ixT, e_lastL, e_lastT, e_part, e_intR, e_noPart, e_slice, e_slL, e_slT, q_par, q_par1, q_par2, po_val, po_new, nx_some, q_getM, q_getE, gate_some, go_int, dat_val, q_pop2, ow_dict, fin_nx, fin_rt, fin_ex, bor_t, bor_f, e_lenL, e_lenT, e_abs, e_min, e_max, e_int, e_intB, e_tupL, e_tupT, e_lstL, e_lstT, e_all, e_any, e_sum, e_isa, e_set0, e_set2, Int.reduceLE, Int.reduceLT, Int.reduceToNat, Int.reduceNeg, Int.le_refl, Int.toNat_zero, List.getElem?_cons_zero, List.getElem?_cons_succ, List.set_cons_zero, List.set_cons_succ, Option.bind_some, Bool.false_eq_true, if_true, if_false, ite_true, ite_false, reduceIte, decide_true, decide_false, Bool.not_true, Bool.not_false, List.map_cons, List.map_nil, List.any_cons, List.any_nil, Bool.or_false, Bool.or_true, Bool.true_or, Bool.false_or, Bool.and_true, Bool.true_and, Bool.false_and, Bool.and_false, c0]
  rfl
def sndStep (e : Int) (p : Int × Int) : Int := if p.1 ≤ e ∧ e < p.2 then p.2 else e
def snd (e : Int) (f : Option Int) (ped : List (Int × Int)) : Int := match f with
  | none => ped.foldl sndStep e
  | some x => if x < ped.foldl sndStep e then x else ped.foldl sndStep e
def oD : Option Int → PyData
  | none => .none
  | some x => .int x
theorem loop_snd {f : PyData} {d : PyData} : ∀ (ped : List (Int × Int)) (e : Int),
    loopS (tgT (tgCons (tgN 3) (tgCons (tgN 4) tgNil))) lb_sounded_to_0 [3, 4] (ped.map Pln.e) [some (.pers, .int e), some (.pers, f), some (.pers, d), none, none] = .nx [some (.pers, .int (ped.foldl sndStep e)), some (.pers, f), some (.pers, d), none, none]
  | [], e => rfl
  | p :: ped, e => by
    have eb : lb_sounded_to_0 [some (.pers, .int e), some (.pers, f), some (.pers, d), some (.pers, .int p.1), some (.pers, .int p.2)] = .nx [some (.pers, .int (sndStep e p)), some (.pers, f), some (.pers, d), some (.pers, .int p.1), some (.pers, .int p.2)] := by
      unfold lb_sounded_to_0 sndStep
      by_cases a : p.1 ≤ e
      · by_cases b : e < p.2
        · simp only [bd_ok, bd_ex, bd_bad, q_pure, q_optS, q_optN, sq_nx, sq_rt, sq_ex, sq_bad, q_seq, q_pass, of_ok, of_ex, of_bad, q_expr, q_if, q_ret, ret_val, ret_new, q_raise, q_var, sv_pers, sv_own, sv_bor, q_con, q_datV, q_datN, q_datS, sd_some, q_optRS, q_optRN, res_t, res_f, q_bin2, q_un1, q_persM, pr_val, pr_new, pr_slot, sp_own, q_mvM, mv_val, mv_new, mv_slot, sm_own, q_set, q_free, fr_none, fr_pers, fr_own, put_val, put_new, q_not, q_andB, q_orB, q_boolM, br_bool, q_andM, q_orM, q_notM, q_ifM, q_chn2, ch_bool, q_cons, q_nil, q_tup, q_lst, q_opd1, q_opd2, q_callM, q_callF, fr_ok, fr_ex, fr_bad, q_callB, ld_own, ld_bor, fb_ok, fb_ex, q_has, has_some, os_ok, ns_some, ms_own, ms_bor, q_st, mt_some, mu_own, mu_bor, q_mutV, q_ownT, ow_own, ow_bor, q_m1, q_m0, q_tgN, q_tg, q_tgR, to_some, tgT_tup, tgT_lst, tgC_cons, tgN_nil, q_for, q_map1, q_walk, so_list, so_tup, wo_list, wo_tup, e_add, e_sub, e_neg, e_lt, e_gt, e_le, e_ge, e_eq, e_ne, e_isN, e_isnN, e_isB, e_isnB, pk_some, e_ixL, e_ixT, e_lastL, e_lastT, e_part, e_intR, e_noPart, e_slice, e_slL, e_slT, q_par, q_par1, q_par2, po_val, po_new, nx_some, q_getM, q_getE, gate_some, go_int, dat_val, q_pop2, ow_dict, fin_nx, fin_rt, fin_ex, bor_t, bor_f, e_lenL, e_lenT, e_abs, e_min, e_max, e_int, e_intB, e_tupL, e_tupT, e_lstL, e_lstT, e_all, e_any, e_sum, e_isa, e_set0, e_set2, Int.reduceLE, Int.reduceLT, Int.reduceToNat, Int.reduceNeg, Int.le_refl, Int.toNat_zero, List.getElem?_cons_zero, List.getElem?_cons_succ, List.set_cons_zero, List.set_cons_succ, Option.bind_some, Bool.false_eq_true, if_true, if_false, ite_true, ite_false, reduceIte, decide_true, decide_false, Bool.not_true, Bool.not_false, List.map_cons, List.map_nil, List.any_cons, List.any_nil, Bool.or_false, Bool.or_true, Bool.true_or, Bool.false_or, Bool.and_true, Bool.true_and, Bool.false_and, Bool.and_false, a, b, and_self]
        · simp only [bd_ok, bd_ex, bd_bad, q_pure, q_optS, q_optN, sq_nx, sq_rt, sq_ex, sq_bad, q_seq, q_pass, of_ok, of_ex, of_bad, q_expr, q_if, q_ret, ret_val, ret_new, q_raise, q_var, sv_pers, sv_own, sv_bor, q_con, q_datV, q_datN, q_datS, sd_some, q_optRS, q_optRN, res_t, res_f, q_bin2, q_un1, q_persM, pr_val, pr_new, pr_slot, sp_own, q_mvM, mv_val, mv_new, mv_slot, sm_own, q_set, q_free, fr_none, fr_pers, fr_own, put_val, put_new, q_not, q_andB, q_orB, q_boolM, br_bool, q_andM, q_orM, q_notM, q_ifM, q_chn2, ch_bool, q_cons, q_nil, q_tup, q_lst, q_opd1, q_opd2, q_callM, q_callF, fr_ok, fr_ex, fr_bad, q_callB, ld_own, ld_bor, fb_ok, fb_ex, q_has, has_some, os_ok, ns_some, ms_own, ms_bor, q_st, mt_some, mu_own, mu_bor, q_mutV, q_ownT, ow_own, ow_bor, q_m1, q_m0, q_tgN, q_tg, q_tgR, to_some, tgT_tup, tgT_lst, tgC_cons, tgN_nil, q_for, q_map1, q_walk, so_list, so_tup, wo_list, wo_tup, e_add, e_sub, e_neg, e_lt, e_gt, e_le, e_ge, e_eq, e_ne, e_isN, e_isnN, e_isB, e_isnB, pk_some, e_ixL, e_ixT, e_lastL, e_lastT, e_part, e_intR, e_noPart, e_slice, e_slL, e_slT, q_par, q_par1, q_par2, po_val, po_new, nx_some, q_getM, q_getE, gate_some, go_int, dat_val, q_pop2, ow_dict, fin_nx, fin_rt, fin_ex, bor_t, bor_f, e_lenL, e_lenT, e_abs, e_min, e_max, e_int, e_intB, e_tupL, e_tupT, e_lstL, e_lstT, e_all, e_any, e_sum, e_isa, e_set0, e_set2, Int.reduceLE, Int.reduceLT, Int.reduceToNat, Int.reduceNeg, Int.le_refl, Int.toNat_zero, List.getElem?_cons_zero, List.getElem?_cons_succ, List.set_cons_zero, List.set_cons_succ, Option.bind_some, Bool.false_eq_true, if_true, if_false, ite_true, ite_false, reduceIte, decide_true, decide_false, Bool.not_true, Bool.not_false, List.map_cons, List.map_nil, List.any_cons, List.any_nil, Bool.or_false, Bool.or_true, Bool.true_or, Bool.false_or, Bool.and_true, Bool.true_and, Bool.false_and, Bool.and_false, a, b, and_false]
      · simp only [bd_ok, bd_ex, bd_bad, q_pure, q_optS, q_optN, sq_nx, sq_rt, sq_ex, sq_bad, q_seq, q_pass, of_ok, of_ex, of_bad, q_expr, q_if, q_ret, ret_val, ret_new, q_raise, q_var, sv_pers, sv_own, sv_bor, q_con, q_datV, q_datN, q_datS, sd_some, q_optRS, q_optRN, res_t, res_f, q_bin2, q_un1, q_persM, pr_val, pr_new, pr_slot, sp_own, q_mvM, mv_val, mv_new, mv_slot, sm_own, q_set, q_free, fr_none, fr_pers, fr_own, put_val, put_new, q_not, q_andB, q_orB, q_boolM, br_bool, q_andM, q_orM, q_notM, q_ifM, q_chn2, ch_bool, q_cons, q_nil, q_tup, q_lst, q_opd1, q_opd2, q_callM, q_callF, fr_ok, fr_ex, fr_bad, q_callB, ld_own, ld_bor, fb_ok, fb_ex, q_has, has_some, os_ok, ns_some, ms_own, ms_bor, q_st, mt_some, mu_own, mu_bor, q_mutV, q_ownT, ow_own, ow_bor, q_m1, q_m0, q_tgN, q_tg, q_tgR, to_some, tgT_tup, tgT_lst, tgC_cons, tgN_nil, q_for, q_map1, q_walk, so_list, so_tup, wo_list, wo_tup, e_add, e_sub, e_neg, e_lt, e_gt, e_le, e_ge, e_eq, e_ne, e_isN, e_isnN, e_isB, e_isnB, pk_some, e_ixL, e_ixT, e_lastL, e_lastT, e_part, e_intR, e_noPart, e_slice, e_slL, e_slT, q_par, q_par1, q_par2, po_val, po_new, nx_some, q_getM, q_getE, gate_some, go_int, dat_val, q_pop2, ow_dict, fin_nx, fin_rt, fin_ex, bor_t, bor_f, e_lenL, e_lenT, e_abs, e_min, e_max, e_int, e_intB, e_tupL, e_tupT, e_lstL, e_lstT, e_all, e_any, e_sum, e_isa, e_set0, e_set2, Int.reduceLE, Int.reduceLT, Int.reduceToNat, Int.reduceNeg, Int.le_refl, Int.toNat_zero, List.getElem?_cons_zero, List.getElem?_cons_succ, List.set_cons_zero, List.set_cons_succ, Option.bind_some, Bool.false_eq_true, if_true, if_false, ite_true, ite_false, reduceIte, decide_true, decide_false, Bool.not_true, Bool.not_false, List.map_cons, List.map_nil, List.any_cons, List.any_nil, Bool.or_false, Bool.or_true, Bool.true_or, Bool.false_or, Bool.and_true, Bool.true_and, Bool.false_and, Bool.and_false, a, false_and]
    rw [List.map_cons]
    unfold loopS
    rw [show tgT (tgCons (tgN 3) (tgCons (tgN 4) tgNil)) (Pln.e p) [some (.pers, .int e), some (.pers, f), some (.pers, d), none, none] = some [some (.pers, .int e), some (.pers, f), some (.pers, d), some (.pers, .int p.1), some (.pers, .int p.2)] from rfl]
    dsimp only
    rw [eb]
    exact loop_snd ped (sndStep e p)
theorem sounded_to_ok {e : Int} {f : Option Int} {ped : List (Int × Int)} : f_sounded_to [.int e, oD f, lsD ped] = .ok false (.int (snd e f ped)) .none := by
  refine Eq.trans (run_eq (t := t_sounded_to) (n := 5) (np := 3) (bor := false) rfl) ?_
  rw [show env0 5 false [.int e, oD f, lsD ped] = [some (.pers, .int e), some (.pers, oD f), some (.pers, lsD ped), none, none] from rfl]
  have l := loop_snd (f := oD f) (d := lsD ped) ped e
  unfold t_sounded_to l_sounded_to_0
  cases f with
  | none => simp only [bd_ok, bd_ex, bd_bad, q_pure, q_optS, q_optN, sq_nx, sq_rt, sq_ex, sq_bad, q_seq, q_pass, of_ok, of_ex, of_bad, q_expr, q_if, q_ret, ret_val, ret_new, q_raise, q_var, sv_pers, sv_own, sv_bor, q_con, q_datV, q_datN, q_datS, sd_some, q_optRS, q_optRN, res_t, res_f, q_bin2, q_un1, q_persM, pr_val, pr_new, pr_slot, sp_own, q_mvM, mv_val, mv_new, mv_slot, sm_own, q_set, q_free, fr_none, fr_pers, fr_own, put_val, put_new, q_not, q_andB, q_orB, q_boolM, br_bool, q_andM, q_orM, q_notM, q_ifM, q_chn2, ch_bool, q_cons, q_nil, q_tup, q_lst, q_opd1, q_opd2, q_callM, q_callF, fr_ok, fr_ex, fr_bad, q_callB, ld_own, ld_bor, fb_ok, fb_ex, q_has, has_some, os_ok, ns_some, ms_own, ms_bor, q_st, mt_some, mu_own, mu_bor, q_mutV, q_ownT, ow_own, ow_bor, q_m1, q_m0, q_tgN, q_tg, q_tgR, to_some, tgT_tup, tgT_lst, tgC_cons, tgN_nil, q_for, q_map1, q_walk, so_list, so_tup, wo_list, wo_tup, e_add, e_sub, e_neg, e_lt, e_gt, e_le, e_ge, e_eq, e_ne, e_isN, e_isnN, e_isB, e_isnB, pk_some, e_ixL, e_ixT, e_lastL, e_lastT, e_part, e_intR, e_noPart, e_slice, e_slL, e_slT, q_par, q_par1, q_par2, po_val, po_new, nx_some, q_getM, q_getE, gate_some, go_int, dat_val, q_pop2, ow_dict, fin_nx, fin_rt, fin_ex, bor_t, bor_f, e_lenL, e_lenT, e_abs, e_min, e_max, e_int, e_intB, e_tupL, e_tupT, e_lstL, e_lstT, e_all, e_any, e_sum, e_isa, e_set0, e_set2, Int.reduceLE, Int.reduceLT, Int.reduceToNat, Int.reduceNeg, Int.le_refl, Int.toNat_zero, List.getElem?_cons_zero, List.getElem?_cons_succ, List.set_cons_zero, List.set_cons_succ, Option.bind_some, Bool.false_eq_true, if_true, if_false, ite_true, ite_false, reduceIte, decide_true, decide_false, Bool.not_true, Bool.not_false, List.map_cons, List.map_nil, List.any_cons, List.any_nil, Bool.or_false, Bool.or_true, Bool.true_or, Bool.false_or, Bool.and_true, Bool.true_and, Bool.false_and, Bool.and_false, show walkO (lsD ped) = some (ped.map Pln.e) from rfl, l, e_isN, show notNone (oD none) = false from rfl]; rfl
  | some x => simp only [bd_ok, bd_ex, bd_bad, q_pure, q_optS, q_optN, sq_nx, sq_rt, sq_ex, sq_bad, q_seq, q_pass, of_ok, of_ex, of_bad, q_expr, q_if, q_ret, ret_val, ret_new, q_raise, q_var, sv_pers, sv_own, sv_bor, q_con, q_datV, q_datN, q_datS, sd_some, q_optRS, q_optRN, res_t, res_f, q_bin2, q_un1, q_persM, pr_val, pr_new, pr_slot, sp_own, q_mvM, mv_val, mv_new, mv_slot, sm_own, q_set, q_free, fr_none, fr_pers, fr_own, put_val, put_new, q_not, q_andB, q_orB, q_boolM, br_bool, q_andM, q_orM, q_notM, q_ifM, q_chn2, ch_bool, q_cons, q_nil, q_tup, q_lst, q_opd1, q_opd2, q_callM, q_callF, fr_ok, fr_ex, fr_bad, q_callB, ld_own, ld_bor, fb_ok, fb_ex, q_has, has_some, os_ok, ns_some, ms_own, ms_bor, q_st, mt_some, mu_own, mu_bor, q_mutV, q_ownT, ow_own, ow_bor, q_m1, q_m0, q_tgN, q_tg, q_tgR, to_some, tgT_tup, tgT_lst, tgC_cons, tgN_nil, q_for, q_map1, q_walk, so_list, so_tup, wo_list, wo_tup, e_add, e_sub, e_neg, e_lt, e_gt, e_le, e_ge, e_eq, e_ne, e_isN, e_isnN, e_isB, e_isnB, pk_some, e_ixL, e_ixT, e_lastL, e_lastT, e_part, e_intR, e_noPart, e_slice, e_slL, e_slT, q_par, q_par1, q_par2, po_val, po_new, nx_some, q_getM, q_getE, gate_some, go_int, dat_val, q_pop2, ow_dict, fin_nx, fin_rt, fin_ex, bor_t, bor_f, e_lenL, e_lenT, e_abs, e_min, e_max, e_int, e_intB, e_tupL, e_tupT, e_lstL, e_lstT, e_all, e_any, e_sum, e_isa, e_set0, e_set2, Int.reduceLE, Int.reduceLT, Int.reduceToNat, Int.reduceNeg, Int.le_refl, Int.toNat_zero, List.getElem?_cons_zero, List.getElem?_cons_succ, List.set_cons_zero, List.set_cons_succ, Option.bind_some, Bool.false_eq_true, if_true, if_false, ite_true, ite_false, reduceIte, decide_true, decide_false, Bool.not_true, Bool.not_false, List.map_cons, List.map_nil, List.any_cons, List.any_nil, Bool.or_false, Bool.or_true, Bool.true_or, Bool.false_or, Bool.and_true, Bool.true_and, Bool.false_and, Bool.and_false, show walkO (lsD ped) = some (ped.map Pln.e) from rfl, l, e_isN, show notNone (oD (some x)) = true from rfl, show min2D [.int (ped.foldl sndStep e), oD (some x)] = _ from e_min]; rfl
abbrev No := Int × Int × Int × Bool
/-- a key's notes: its stretches, each with the next one's begin -/
def flw (ss : List (Int × Int)) : List (Option Int) := (ss.drop 1).map (fun p => some p.1) ++ [none]
def nts (ped acc : List (Int × Int)) (key : Int) (ss : List (Int × Int)) : List No := (ss.zip (flw ss)).map fun q => (q.1.1, key, snd q.1.2 q.2 ped, isin acc q.1.1)
def itD (q : (Int × Int) × Option Int) : PyData := .tuple [Pln.e q.1, oD q.2]
section
variable {dd rr : PyData} {w : Int} {ped acc : List (Int × Int)} (ha : acc.length ≤ 1000)
include ha
def K2 (k : Kd) : Prop := k = .own ∨ k = .pers
omit ha in
def envPl (kp ka : Kd) (dd : PyData) (w : Int) (rr : PyData) (ped acc : List (Int × Int)) (found : List No) (key some' fol : Option (Kd × PyData)) : DEnv := [some (.pers, dd), some (.pers, .int w), some (.pers, rr), some (kp, lsD ped), some (ka, lsD acc), some (.own, lsD found), key, some', fol, none, none, none]
theorem loop_notes2 {key : Int} {s f : PyData} : ∀ (qs : List ((Int × Int) × Option Int)) (found : List No) (kp ka : Kd), K2 kp → K2 ka → found.length + qs.length < 9000 →
    ∃ kp' ka', K2 kp' ∧ K2 ka' ∧ loopS (tgT (tgCons (tgT (tgCons (tgN 9) (tgCons (tgN 10) tgNil))) (tgCons (tgN 11) tgNil))) lb_played_0 [9, 10, 11] (qs.map itD) (envPl kp ka dd w rr ped acc found (some (.pers, .int key)) (some (.pers, s)) (some (.pers, f)))
      = .nx (envPl kp' ka' dd w rr ped acc (found ++ qs.map fun q => (q.1.1, key, snd q.1.2 q.2 ped, isin acc q.1.1)) (some (.pers, .int key)) (some (.pers, s)) (some (.pers, f)))
  | [], found, kp, ka, hp, hk, _ => ⟨kp, ka, hp, hk, by rw [List.map_nil, List.map_nil, List.append_nil]; rfl⟩
  | q :: qs, found, kp, ka, hp, hk, hl => by
    rw [List.length_cons] at hl
    have ap : appD (lsD found) (.tuple [.int q.1.1, .int key, .int (snd q.1.2 q.2 ped), .bool (isin acc q.1.1)]) = some (lsD (found ++ [(q.1.1, key, snd q.1.2 q.2 ped, isin acc q.1.1)]), .none) := app_ls (a := ((q.1.1, key, snd q.1.2 q.2 ped, isin acc q.1.1) : No)) (by omega)
    have eb : lb_played_0 [some (.pers, dd), some (.pers, .int w), some (.pers, rr), some (kp, lsD ped), some (ka, lsD acc), some (.own, lsD found), some (.pers, .int key), some (.pers, s), some (.pers, f), some (.pers, .int q.1.1), some (.pers, .int q.1.2), some (.pers, oD q.2)]
        = .nx [some (.pers, dd), some (.pers, .int w), some (.pers, rr), some (.pers, lsD ped), some (.pers, lsD acc), some (.own, lsD (found ++ [(q.1.1, key, snd q.1.2 q.2 ped, isin acc q.1.1)])), some (.pers, .int key), some (.pers, s), some (.pers, f), some (.pers, .int q.1.1), some (.pers, .int q.1.2), some (.pers, oD q.2)] := by
      unfold lb_played_0
      rcases hp with rfl | rfl <;> rcases hk with rfl | rfl <;> simp only [bd_ok, bd_ex, bd_bad, q_pure, q_optS, q_optN, sq_nx, sq_rt, sq_ex, sq_bad, q_seq, q_pass, of_ok, of_ex, of_bad, q_expr, q_if, q_ret, ret_val, ret_new, q_raise, q_var, sv_pers, sv_own, sv_bor, q_con, q_datV, q_datN, q_datS, sd_some, q_optRS, q_optRN, res_t, res_f, q_bin2, q_un1, q_persM, pr_val, pr_new, pr_slot, sp_own, q_mvM, mv_val, mv_new, mv_slot, sm_own, q_set, q_free, fr_none, fr_pers, fr_own, put_val, put_new, q_not, q_andB, q_orB, q_boolM, br_bool, q_andM, q_orM, q_notM, q_ifM, q_chn2, ch_bool, q_cons, q_nil, q_tup, q_lst, q_opd1, q_opd2, q_callM, q_callF, fr_ok, fr_ex, fr_bad, q_callB, ld_own, ld_bor, fb_ok, fb_ex, q_has, has_some, os_ok, ns_some, ms_own, ms_bor, q_st, mt_some, mu_own, mu_bor, q_mutV, q_ownT, ow_own, ow_bor, q_m1, q_m0, q_tgN, q_tg, q_tgR, to_some, tgT_tup, tgT_lst, tgC_cons, tgN_nil, q_for, q_map1, q_walk, so_list, so_tup, wo_list, wo_tup, e_add, e_sub, e_neg, e_lt, e_gt, e_le, e_ge, e_eq, e_ne, e_isN, e_isnN, e_isB, e_isnB, pk_some, e_ixL, e_ixT, e_lastL, e_lastT, e_part, e_intR, e_noPart, e_slice, e_slL, e_slT, q_par, q_par1, q_par2, po_val, po_new, nx_some, q_getM, q_getE, gate_some, go_int, dat_val, q_pop2, ow_dict, fin_nx, fin_rt, fin_ex, bor_t, bor_f, e_lenL, e_lenT, e_abs, e_min, e_max, e_int, e_intB, e_tupL, e_tupT, e_lstL, e_lstT, e_all, e_any, e_sum, e_isa, e_set0, e_set2, Int.reduceLE, Int.reduceLT, Int.reduceToNat, Int.reduceNeg, Int.le_refl, Int.toNat_zero, List.getElem?_cons_zero, List.getElem?_cons_succ, List.set_cons_zero, List.set_cons_succ, Option.bind_some, Bool.false_eq_true, if_true, if_false, ite_true, ite_false, reduceIte, decide_true, decide_false, Bool.not_true, Bool.not_false, List.map_cons, List.map_nil, List.any_cons, List.any_nil, Bool.or_false, Bool.or_true, Bool.true_or, Bool.false_or, Bool.and_true, Bool.true_and, Bool.false_and, Bool.and_false, sounded_to_ok, is_in_ok ha, ap, show ownO "list" (some (some (Kd.own, lsD found))) = true from rfl]
    obtain ⟨kp', ka', h1, h2, e2⟩ := loop_notes2 qs (found ++ [(q.1.1, key, snd q.1.2 q.2 ped, isin acc q.1.1)]) .pers .pers (.inr rfl) (.inr rfl) (by rw [List.length_append, List.length_singleton]; omega)
    refine ⟨kp', ka', h1, h2, ?_⟩
    rw [List.map_cons]
    unfold loopS
    rw [show tgT (tgCons (tgT (tgCons (tgN 9) (tgCons (tgN 10) tgNil))) (tgCons (tgN 11) tgNil)) (itD q) (envPl kp ka dd w rr ped acc found (some (.pers, .int key)) (some (.pers, s)) (some (.pers, f))) = some [some (.pers, dd), some (.pers, .int w), some (.pers, rr), some (kp, lsD ped), some (ka, lsD acc), some (.own, lsD found), some (.pers, .int key), some (.pers, s), some (.pers, f), some (.pers, .int q.1.1), some (.pers, .int q.1.2), some (.pers, oD q.2)] from rfl]
    dsimp only
    rw [eb]
    refine e2.trans ?_
    rw [List.map_cons, List.append_assoc]; rfl
omit ha in
theorem zip_it {ss : List (Int × Int)} : zip2O [lsD ss, .list ((flw ss).map oD)] = some ((ss.zip (flw ss)).map itD) := by
  rw [e_zip2 (show seqO (lsD ss) = some (ss.map Pln.e) from rfl) so_list]
  congr 1
  rw [List.zip_eq_zipWith, List.map_zipWith, List.zipWith_map]; rfl
theorem lb_key_pl {g t : Int} {ls : List (Int × Int)} (h : Dr g t ls) {r : List Ho} (w0 : 1 ≤ w) (ok : RollOk r) {key : Int} {found : List No} {s0 f0 : Option (Kd × PyData)} (hs0 : freeO (some s0) = true) (hf0 : freeO (some f0) = true) (hl : found.length + 200 < 9000) {kp ka : Kd} (hp : K2 kp) (hk : K2 ka) :
    ∃ δ kp' ka', K2 kp' ∧ K2 ka' ∧ lb_played_1 (envPl kp ka (drvD g t ls) w (tpD r) ped acc found (some (.pers, .int key)) s0 f0) = .nx δ ∧ fgt [6, 7, 8, 9, 10, 11] δ = envPl kp' ka' (drvD g t ls) w (tpD r) ped acc (found ++ nts ped acc key (stz g t ls w r key)) none none none := by
  have e1 := stretches_by_ok h (lane := key) w0 ok
  have hz : (stz g t ls w r key).length ≤ 200 := by
    have := stl_len g t ls w (laneL r key) []
    have := lane_len r key
    have := ok.len
    unfold stz
    have : ([] : List (Int × Int)).length = 0 := rfl
    omega
  generalize stz g t ls w r key = ss at e1 hz
  have c0 : c_played_0 [some (.pers, drvD g t ls), some (.pers, .int w), some (.pers, tpD r), some (kp, lsD ped), some (ka, lsD acc), some (.own, lsD found), some (.pers, .int key), some (.own, lsD ss), f0, none, none, none]
      = .ok (.new (.list ((ss.drop 1).map fun p => PyData.int p.1))) [some (.pers, drvD g t ls), some (.pers, .int w), some (.pers, tpD r), some (kp, lsD ped), some (ka, lsD acc), some (.own, lsD found), some (.pers, .int key), some (.own, lsD ss), f0, none, none, none] := by
    refine lcm_enc Pln.e (ss.drop 1) (fun p => PyData.int p.1) ?_ rfl (line20 (by rw [List.length_drop]; omega)) fun x hx => ?_
    · have : sliceD (lsD ss) (some 1) none = some (true, lsD (ss.drop 1)) := by
        show some (true, PyData.list (cutD (ss.map Pln.e) (some 1) none)) = _
        rw [cut_from (by decide)]; unfold lsD; rw [List.map_drop]; rfl
      simp only [bd_ok, bd_ex, bd_bad, q_pure, q_optS, q_optN, sq_nx, sq_rt, sq_ex, sq_bad, q_seq, q_pass, of_ok, of_ex, of_bad, q_expr, q_if, q_ret, ret_val, ret_new, q_raise, q_var, sv_pers, sv_own, sv_bor, q_con, q_datV, q_datN, q_datS, sd_some, q_optRS, q_optRN, res_t, res_f, q_bin2, q_un1, q_persM, pr_val, pr_new, pr_slot, sp_own, q_mvM, mv_val, mv_new, mv_slot, sm_own, q_set, q_free, fr_none, fr_pers, fr_own, put_val, put_new, q_not, q_andB, q_orB, q_boolM, br_bool, q_andM, q_orM, q_notM, q_ifM, q_chn2, ch_bool, q_cons, q_nil, q_tup, q_lst, q_opd1, q_opd2, q_callM, q_callF, fr_ok, fr_ex, fr_bad, q_callB, ld_own, ld_bor, fb_ok, fb_ex, q_has, has_some, os_ok, ns_some, ms_own, ms_bor, q_st, mt_some, mu_own, mu_bor, q_mutV, q_ownT, ow_own, ow_bor, q_m1, q_m0, q_tgN, q_tg, q_tgR, to_some, tgT_tup, tgT_lst, tgC_cons, tgN_nil, q_for, q_map1, q_walk, so_list, so_tup, wo_list, wo_tup, e_add, e_sub, e_neg, e_lt, e_gt, e_le, e_ge, e_eq, e_ne, e_isN, e_isnN, e_isB, e_isnB, pk_some, e_ixL, e_ixT, e_lastL, e_lastT, e_part, e_intR, e_noPart, e_slice, e_slL, e_slT, q_par, q_par1, q_par2, po_val, po_new, nx_some, q_getM, q_getE, gate_some, go_int, dat_val, q_pop2, ow_dict, fin_nx, fin_rt, fin_ex, bor_t, bor_f, e_lenL, e_lenT, e_abs, e_min, e_max, e_int, e_intB, e_tupL, e_tupT, e_lstL, e_lstT, e_all, e_any, e_sum, e_isa, e_set0, e_set2, Int.reduceLE, Int.reduceLT, Int.reduceToNat, Int.reduceNeg, Int.le_refl, Int.toNat_zero, List.getElem?_cons_zero, List.getElem?_cons_succ, List.set_cons_zero, List.set_cons_succ, Option.bind_some, Bool.false_eq_true, if_true, if_false, ite_true, ite_false, reduceIte, decide_true, decide_false, Bool.not_true, Bool.not_false, List.map_cons, List.map_nil, List.any_cons, List.any_nil, Bool.or_false, Bool.or_true, Bool.true_or, Bool.false_or, Bool.and_true, Bool.true_and, Bool.false_and, Bool.and_false, this, show walkO (lsD (ss.drop 1)) = some ((ss.drop 1).map Pln.e) from rfl]
    · refine ⟨[some (.pers, drvD g t ls), some (.pers, .int w), some (.pers, tpD r), some (kp, lsD ped), some (ka, lsD acc), some (.own, lsD found), some (.pers, .int key), some (.own, lsD ss), f0, some (.pers, .int x.1), some (.pers, .int x.2), none], [some (.pers, drvD g t ls), some (.pers, .int w), some (.pers, tpD r), some (kp, lsD ped), some (ka, lsD acc), some (.own, lsD found), some (.pers, .int key), some (.own, lsD ss), f0, some (.pers, .int x.1), some (.pers, .int x.2), none], rfl, ?_, rfl⟩
      unfold ce_played_0
      simp only [bd_ok, bd_ex, bd_bad, q_pure, q_optS, q_optN, sq_nx, sq_rt, sq_ex, sq_bad, q_seq, q_pass, of_ok, of_ex, of_bad, q_expr, q_if, q_ret, ret_val, ret_new, q_raise, q_var, sv_pers, sv_own, sv_bor, q_con, q_datV, q_datN, q_datS, sd_some, q_optRS, q_optRN, res_t, res_f, q_bin2, q_un1, q_persM, pr_val, pr_new, pr_slot, sp_own, q_mvM, mv_val, mv_new, mv_slot, sm_own, q_set, q_free, fr_none, fr_pers, fr_own, put_val, put_new, q_not, q_andB, q_orB, q_boolM, br_bool, q_andM, q_orM, q_notM, q_ifM, q_chn2, ch_bool, q_cons, q_nil, q_tup, q_lst, q_opd1, q_opd2, q_callM, q_callF, fr_ok, fr_ex, fr_bad, q_callB, ld_own, ld_bor, fb_ok, fb_ex, q_has, has_some, os_ok, ns_some, ms_own, ms_bor, q_st, mt_some, mu_own, mu_bor, q_mutV, q_ownT, ow_own, ow_bor, q_m1, q_m0, q_tgN, q_tg, q_tgR, to_some, tgT_tup, tgT_lst, tgC_cons, tgN_nil, q_for, q_map1, q_walk, so_list, so_tup, wo_list, wo_tup, e_add, e_sub, e_neg, e_lt, e_gt, e_le, e_ge, e_eq, e_ne, e_isN, e_isnN, e_isB, e_isnB, pk_some, e_ixL, e_ixT, e_lastL, e_lastT, e_part, e_intR, e_noPart, e_slice, e_slL, e_slT, q_par, q_par1, q_par2, po_val, po_new, nx_some, q_getM, q_getE, gate_some, go_int, dat_val, q_pop2, ow_dict, fin_nx, fin_rt, fin_ex, bor_t, bor_f, e_lenL, e_lenT, e_abs, e_min, e_max, e_int, e_intB, e_tupL, e_tupT, e_lstL, e_lstT, e_all, e_any, e_sum, e_isa, e_set0, e_set2, Int.reduceLE, Int.reduceLT, Int.reduceToNat, Int.reduceNeg, Int.le_refl, Int.toNat_zero, List.getElem?_cons_zero, List.getElem?_cons_succ, List.set_cons_zero, List.set_cons_succ, Option.bind_some, Bool.false_eq_true, if_true, if_false, ite_true, ite_false, reduceIte, decide_true, decide_false, Bool.not_true, Bool.not_false, List.map_cons, List.map_nil, List.any_cons, List.any_nil, Bool.or_false, Bool.or_true, Bool.true_or, Bool.false_or, Bool.and_true, Bool.true_and, Bool.false_and, Bool.and_false]
  have ad : addD (.list ((ss.drop 1).map fun p => PyData.int p.1)) (.list [.none]) = some (true, .list ((flw ss).map oD)) := by
    have : (flw ss).map oD = ((ss.drop 1).map fun p => PyData.int p.1) ++ [.none] := by unfold flw; rw [List.map_append, List.map_map]; rfl
    rw [this]
    exact e_addL (line20 (by rw [List.length_map, List.length_drop]; show _ + 1 ≤ 1000; omega))
  have e2 := loop_notes2 (dd := drvD g t ls) (w := w) (rr := tpD r) (ped := ped) ha (key := key) (s := lsD ss) (f := .list ((flw ss).map oD)) (ss.zip (flw ss)) found kp ka hp hk (by rw [List.length_zip]; omega)
  obtain ⟨kp', ka', hp', hk', e2⟩ := e2
  refine ⟨envPl kp' ka' (drvD g t ls) w (tpD r) ped acc (found ++ nts ped acc key ss) (some (.pers, .int key)) (some (.pers, lsD ss)) (some (.pers, .list ((flw ss).map oD))), kp', ka', hp', hk', ?_, rfl⟩
  unfold envPl at e2
  unfold lb_played_1 l_played_0 envPl
  simp only [bd_ok, bd_ex, bd_bad, q_pure, q_optS, q_optN, sq_nx, sq_rt, sq_ex, sq_bad, q_seq, q_pass, of_ok, of_ex, of_bad, q_expr, q_if, q_ret, ret_val, ret_new, q_raise, q_var, sv_pers, sv_own, sv_bor, q_con, q_datV, q_datN, q_datS, sd_some, q_optRS, q_optRN, res_t, res_f, q_bin2, q_un1, q_persM, pr_val, pr_new, pr_slot, sp_own, q_mvM, mv_val, mv_new, mv_slot, sm_own, q_set, q_free, fr_none, fr_pers, fr_own, put_val, put_new, q_not, q_andB, q_orB, q_boolM, br_bool, q_andM, q_orM, q_notM, q_ifM, q_chn2, ch_bool, q_cons, q_nil, q_tup, q_lst, q_opd1, q_opd2, q_callM, q_callF, fr_ok, fr_ex, fr_bad, q_callB, ld_own, ld_bor, fb_ok, fb_ex, q_has, has_some, os_ok, ns_some, ms_own, ms_bor, q_st, mt_some, mu_own, mu_bor, q_mutV, q_ownT, ow_own, ow_bor, q_m1, q_m0, q_tgN, q_tg, q_tgR, to_some, tgT_tup, tgT_lst, tgC_cons, tgN_nil, q_for, q_map1, q_walk, so_list, so_tup, wo_list, wo_tup, e_add, e_sub, e_neg, e_lt, e_gt, e_le, e_ge, e_eq, e_ne, e_isN, e_isnN, e_isB, e_isnB, pk_some, e_ixL, e_ixT, e_lastL, e_lastT, e_part, e_intR, e_noPart, e_slice, e_slL, e_slT, q_par, q_par1, q_par2, po_val, po_new, nx_some, q_getM, q_getE, gate_some, go_int, dat_val, q_pop2, ow_dict, fin_nx, fin_rt, fin_ex, bor_t, bor_f, e_lenL, e_lenT, e_abs, e_min, e_max, e_int, e_intB, e_tupL, e_tupT, e_lstL, e_lstT, e_all, e_any, e_sum, e_isa, e_set0, e_set2, Int.reduceLE, Int.reduceLT, Int.reduceToNat, Int.reduceNeg, Int.le_refl, Int.toNat_zero, List.getElem?_cons_zero, List.getElem?_cons_succ, List.set_cons_zero, List.set_cons_succ, Option.bind_some, Bool.false_eq_true, if_true, if_false, ite_true, ite_false, reduceIte, decide_true, decide_false, Bool.not_true, Bool.not_false, List.map_cons, List.map_nil, List.any_cons, List.any_nil, Bool.or_false, Bool.or_true, Bool.true_or, Bool.false_or, Bool.and_true, Bool.true_and, Bool.false_and, Bool.and_false, e1, hs0, c0, hf0, ad, zip_it, e2]
  rfl
theorem loop_keys_pl {g t : Int} {ls : List (Int × Int)} (h : Dr g t ls) {r : List Ho} (w0 : 1 ≤ w) (ok : RollOk r) : ∀ (ks : List Int) (found : List No) (kp ka : Kd), K2 kp → K2 ka → found.length + 200 * ks.length + 200 < 9000 →
    ∃ kp' ka', K2 kp' ∧ K2 ka' ∧ loopS (tgN 6) lb_played_1 [6, 7, 8, 9, 10, 11] (ks.map PyData.int) (envPl kp ka (drvD g t ls) w (tpD r) ped acc found none none none) = .nx (envPl kp' ka' (drvD g t ls) w (tpD r) ped acc (found ++ ks.flatMap fun k => nts ped acc k (stz g t ls w r k)) none none none)
  | [], found, kp, ka, hp, hk, _ => ⟨kp, ka, hp, hk, by rw [List.flatMap_nil, List.append_nil]; rfl⟩
  | k :: ks, found, kp, ka, hp, hk, hl => by
    rw [List.length_cons] at hl
    obtain ⟨δ, kp1, ka1, hp1, hk1, e1, e2⟩ := lb_key_pl (ped := ped) ha h w0 ok (key := k) (found := found) (s0 := none) (f0 := none) rfl rfl (by omega) hp hk
    have hn : (nts ped acc k (stz g t ls w r k)).length ≤ 200 := by
      have h1 := stl_len g t ls w (laneL r k) []
      have h2 := lane_len r k
      have h3 := ok.len
      have h4 : ([] : List (Int × Int)).length = 0 := rfl
      unfold nts stz
      rw [List.length_map, List.length_zip]
      omega
    obtain ⟨kp2, ka2, hp2, hk2, e3⟩ := loop_keys_pl h w0 ok ks (found ++ nts ped acc k (stz g t ls w r k)) kp1 ka1 hp1 hk1 (by rw [List.length_append]; omega)
    refine ⟨kp2, ka2, hp2, hk2, ?_⟩
    rw [List.map_cons]
    unfold loopS
    rw [show tgN 6 (PyData.int k) (envPl kp ka (drvD g t ls) w (tpD r) ped acc found none none none) = some (envPl kp ka (drvD g t ls) w (tpD r) ped acc found (some (.pers, .int k)) none none) from rfl]
    dsimp only
    rw [e1]
    dsimp only
    rw [e2, e3, List.flatMap_cons, List.append_assoc]
end
def keysP : List Int := (List.range 18).map fun (j : Nat) => 2 + (j : Int)
/-- all notes that a roll plays, key by key -/
noncomputable def plN (g t : Int) (ls : List (Int × Int)) (w : Int) (r : List Ho) : List No := keysP.flatMap fun k => nts (stz g t ls w r 0) (stz g t ls w r 1) k (stz g t ls w r k)
theorem stz_len (g t : Int) (ls : List (Int × Int)) (w : Int) (r : List Ho) (lane : Int) : (stz g t ls w r lane).length ≤ r.length := by
  have h1 := stl_len g t ls w (laneL r lane) []
  have h2 := lane_len r lane
  have h4 : ([] : List (Int × Int)).length = 0 := rfl
  unfold stz
  omega
theorem plN_len (g t : Int) (ls : List (Int × Int)) (w : Int) (r : List Ho) : (plN g t ls w r).length ≤ 18 * r.length := by
  have key : ∀ ks : List Int, (ks.flatMap fun k => nts (stz g t ls w r 0) (stz g t ls w r 1) k (stz g t ls w r k)).length ≤ ks.length * r.length := by
    intro ks
    induction ks with
    | nil => simp
    | cons k ks ih =>
      have hn : (nts (stz g t ls w r 0) (stz g t ls w r 1) k (stz g t ls w r k)).length ≤ r.length := by
        have := stz_len g t ls w r k
        unfold nts; rw [List.length_map, List.length_zip]; omega
      rw [List.flatMap_cons, List.length_append, List.length_cons, Nat.succ_mul]; omega
  exact key keysP
theorem played_ok {g t : Int} {ls : List (Int × Int)} (h : Dr g t ls) {w : Int} {r : List Ho} (w0 : 1 ≤ w) (w1 : w ≤ 40) (ok : RollOk r) : f_played [drvD g t ls, .int w, tpD r] = .ok true (lsD (srt (plN g t ls w r))) .none := by
  refine Eq.trans (run_eq (t := t_played) (n := 12) (np := 3) (bor := false) rfl) ?_
  rw [show env0 12 false [drvD g t ls, .int w, tpD r] = [some (.pers, drvD g t ls), some (.pers, .int w), some (.pers, tpD r), none, none, none, none, none, none, none, none, none] from rfl]
  have hr := ok.len
  have e0 := stretches_by_ok h (lane := 0) w0 ok
  have e1 := stretches_by_ok h (lane := 1) w0 ok
  have l1 := stz_len g t ls w r 1
  have hup : range2O [.int 2, .int (19 + 1)] = some (keysP.map PyData.int) := by
    rw [e_range2 (by decide) (by decide)]; rfl
  have pl := plN_len g t ls w r
  obtain ⟨kp, ka, _, _, e2⟩ := loop_keys_pl (acc := stz g t ls w r 1) (ped := stz g t ls w r 0) (by omega) h w0 ok keysP [] .own .own (.inl rfl) (.inl rfl) (by decide)
  rw [List.nil_append, show (keysP.flatMap fun k => nts (stz g t ls w r 0) (stz g t ls w r 1) k (stz g t ls w r k)) = plN g t ls w r from rfl] at e2
  unfold envPl at e2
  unfold t_played l_played_1
  simp only [bd_ok, bd_ex, bd_bad, q_pure, q_optS, q_optN, sq_nx, sq_rt, sq_ex, sq_bad, q_seq, q_pass, of_ok, of_ex, of_bad, q_expr, q_if, q_ret, ret_val, ret_new, q_raise, q_var, sv_pers, sv_own, sv_bor, q_con, q_datV, q_datN, q_datS, sd_some, q_optRS, q_optRN, res_t, res_f, q_bin2, q_un1, q_persM, pr_val, pr_new, pr_slot, sp_own, q_mvM, mv_val, mv_new, mv_slot, sm_own, q_set, q_free, fr_none, fr_pers, fr_own, put_val, put_new, q_not, q_andB, q_orB, q_boolM, br_bool, q_andM, q_orM, q_notM, q_ifM, q_chn2, ch_bool, q_cons, q_nil, q_tup, q_lst, q_opd1, q_opd2, q_callM, q_callF, fr_ok, fr_ex, fr_bad, q_callB, ld_own, ld_bor, fb_ok, fb_ex, q_has, has_some, os_ok, ns_some, ms_own, ms_bor, q_st, mt_some, mu_own, mu_bor, q_mutV, q_ownT, ow_own, ow_bor, q_m1, q_m0, q_tgN, q_tg, q_tgR, to_some, tgT_tup, tgT_lst, tgC_cons, tgN_nil, q_for, q_map1, q_walk, so_list, so_tup, wo_list, wo_tup, e_add, e_sub, e_neg, e_lt, e_gt, e_le, e_ge, e_eq, e_ne, e_isN, e_isnN, e_isB, e_isnB, pk_some, e_ixL, e_ixT, e_lastL, e_lastT, e_part, e_intR, e_noPart, e_slice, e_slL, e_slT, q_par, q_par1, q_par2, po_val, po_new, nx_some, q_getM, q_getE, gate_some, go_int, dat_val, q_pop2, ow_dict, fin_nx, fin_rt, fin_ex, bor_t, bor_f, e_lenL, e_lenT, e_abs, e_min, e_max, e_int, e_intB, e_tupL, e_tupT, e_lstL, e_lstT, e_all, e_any, e_sum, e_isa, e_set0, e_set2, Int.reduceLE, Int.reduceLT, Int.reduceToNat, Int.reduceNeg, Int.le_refl, Int.toNat_zero, List.getElem?_cons_zero, List.getElem?_cons_succ, List.set_cons_zero, List.set_cons_succ, Option.bind_some, Bool.false_eq_true, if_true, if_false, ite_true, ite_false, reduceIte, decide_true, decide_false, Bool.not_true, Bool.not_false, List.map_cons, List.map_nil, List.any_cons, List.any_nil, Bool.or_false, Bool.or_true, Bool.true_or, Bool.false_or, Bool.and_true, Bool.true_and, Bool.false_and, Bool.and_false, look_at_bar_ok h w0 w1, look_at_roll_ok ok, e0, e1, hup, show PyData.list [] = lsD ([] : List No) from rfl, e2, sort_ls (plN g t ls w r) (by omega)]
end LW

namespace K07
open PySem PySem.Spec PyProof.Rows L2 DL LW
def lb_moved_0 : SM := (seqS (setS 6 (ifM (boolM (bin2 geD (varM 3) (conM (.int 2)))) (bin2 addD (varM 3) (varM 1)) (varM 3))) (seqS (ifS (andB (boolM (bin2 geD (varM 3) (conM (.int 2)))) (notB (boolM (chn2 leD leD (conM (.int 2)) (varM 6) (conM (.int 19)))))) (seqS (retS (conM .none)) passS) passS) (seqS (exprS (m1M "list" 2 appD (tupM (consM (persM (varM 6)) (consM (persM (varM 4)) (consM (persM (varM 5)) nilM)))))) passS)))
def l_moved_0 : SM := forS (walkM (varM 0)) (tgT (tgCons (tgN 3) (tgCons (tgN 4) (tgCons (tgN 5) tgNil)))) lb_moved_0 [3, 4, 5, 6]
def t_moved : SM := (seqS (exprS (callF f_look_at_roll (consM (persM (varM 0)) nilM))) (seqS (setS 2 (lstM nilM)) (seqS l_moved_0 (seqS (retS (callM tupleD (opd1 (callM sortD (opd1 (varM 2)))))) passS))))
def f_moved : FSem := runF 7 2 false t_moved
def ce__law_ticks_0 : M D := persM (tupM (consM (persM (varM 4)) (consM (persM (conM (.bool true))) nilM)))
def c__law_ticks_0 : M R := lcM (mapM1 (consM (persM (varM 2)) (consM (persM (varM 3)) nilM)) range2O) (tgN 4) yesM ce__law_ticks_0 [4]
def lb__law_ticks_0 : SM := (seqS (exprS (m1M "dict" 1 updD c__law_ticks_0)) passS)
def l__law_ticks_0 : SM := forS (walkM (varM 0)) (tgT (tgCons (tgN 2) (tgCons (tgN 3) tgNil))) lb__law_ticks_0 [2, 3]
def t__law_ticks : SM := (seqS (setS 1 dct0) (seqS l__law_ticks_0 (seqS (retS (varM 1)) passS)))
def f__law_ticks : FSem := runF 5 1 false t__law_ticks
def ce_law_0 : M D := persM (bin2 addD (tupM (consM (persM (bin2 ixD (varM 10) (conM (.int 0)))) (consM (persM (bin2 addD (bin2 ixD (varM 10) (conM (.int 1))) (conM (.int 3)))) nilM))) (sliceM (varM 10) (part (conM (.int 2))) noPart))
def c_law_0 : M R := lcM (walkM (callF f_played (consM (persM (varM 2)) (consM (persM (varM 3)) (consM (persM (varM 4)) nilM))))) (tgN 10) yesM ce_law_0 [10]
def lb_law_0 : SM := (seqS (ifS (andB (boolM (bin2 eqD (bin2 ixD (varM 10) (conM (.int 0))) (varM 6))) (boolM (bin2 eqD (callF f_stretches (consM (persM (varM 18)) (consM (persM (varM 15)) (consM (persM (tupM (consM (persM (varM 10)) nilM))) (consM (persM (varM 6)) nilM))))) (lstM nilM)))) (seqS (retS (conM (.bool false))) passS) passS) passS)
def l_law_0 : SM := forS (walkM (varM 4)) (tgN 10) lb_law_0 [10]
def ce_law_1 : M D := persM (tupM (consM (persM (bin2 addD (varM 20) (varM 16))) (consM (persM (bin2 addD (varM 21) (varM 16))) nilM)))
def c_law_1 : M R := lcM (walkM (varM 19)) (tgT (tgCons (tgN 20) (tgCons (tgN 21) tgNil))) yesM ce_law_1 [20, 21]
def lb_law_1 : SM := (seqS (setS 19 (callF f_stretches (consM (persM (varM 18)) (consM (persM (conM (.int 1))) (consM (persM (varM 4)) (consM (persM (varM 6)) nilM)))))) (seqS (ifS (boolM (bin2 neD (callF f_stretches (consM (persM (varM 18)) (consM (persM (conM (.int 1))) (consM (persM (varM 17)) (consM (persM (varM 6)) nilM))))) c_law_1)) (seqS (retS (conM (.bool false))) passS) passS) (seqS l_law_0 passS)))
def l_law_1 : SM := forS (walkM (tupM (consM (persM (conM (.int 2))) (consM (persM (conM (.int 5))) nilM)))) (tgN 6) lb_law_1 [6, 10, 19]
def ce_law_2 : M D := persM (tupM (consM (persM (varM 6)) (consM (persM (bin2 addD (varM 7) (bin2 mulD (varM 15) (varM 16)))) (consM (persM (bin2 addD (varM 8) (bin2 mulD (varM 15) (varM 16)))) nilM))))
def c_law_2 : M R := lcM (walkM (varM 4)) (tgT (tgCons (tgN 6) (tgCons (tgN 7) (tgCons (tgN 8) tgNil)))) yesM ce_law_2 [6, 7, 8]
def ce_law_3 : M D := persM (varM 14)
def c_law_3 : M R := lcM (walkM (varM 11)) (tgN 14) (orB (boolM (bin2 notInD (varM 14) (varM 12))) (boolM (bin2 notInD (varM 14) (varM 13)))) ce_law_3 [14]
def lb_law_2 : SM := (seqS (setS 11 (callF f__law_ticks (consM (persM (callF f_stretches (consM (persM (varM 2)) (consM (persM (varM 3)) (consM (persM (varM 4)) (consM (persM (varM 6)) nilM)))))) nilM))) (seqS (setS 12 (callF f__law_ticks (consM (persM (callF f_stretches (consM (persM (varM 2)) (consM (persM (bin2 addD (varM 3) (conM (.int 1)))) (consM (persM (varM 4)) (consM (persM (varM 6)) nilM)))))) nilM))) (seqS (setS 13 (callF f__law_ticks (consM (persM (callF f_stretches (consM (persM (varM 2)) (consM (persM (varM 3)) (consM (persM (callM tupleD (opd1 (varM 5)))) (consM (persM (varM 6)) nilM)))))) nilM))) (seqS (ifS (boolM (bin2 neD c_law_3 (lstM nilM))) (seqS (retS (conM (.bool false))) passS) passS) passS))))
def l_law_2 : SM := forS (walkM (tupM (consM (persM (conM (.int 2))) (consM (persM (conM (.int 5))) nilM)))) (tgN 6) lb_law_2 [6, 11, 12, 13]
def ce_law_4 : M D := persM (varM 10)
def c_law_4 : M R := lcM (walkM (varM 4)) (tgN 10) (andB (boolM (bin2 eqD (bin2 ixD (varM 10) (conM (.int 0))) (varM 6))) (boolM (bin2 eqD (bin2 ixD (varM 10) (conM (.int 1))) (bin2 addD (varM 8) (conM (.int 2)))))) ce_law_4 [10]
def lb_law_3 : SM := (seqS (setS 9 c_law_4) (seqS (exprS (m1M "list" 5 appD (tupM (consM (persM (varM 6)) (consM (persM (varM 7)) (consM (persM (bin2 addD (varM 8) (callM intD (opd1 (bin2 eqD (varM 9) (lstM nilM)))))) nilM)))))) passS))
def l_law_3 : SM := forS (walkM (varM 4)) (tgT (tgCons (tgN 6) (tgCons (tgN 7) (tgCons (tgN 8) tgNil)))) lb_law_3 [6, 7, 8, 9]
def t_law : SM := (seqS (parS 2 3 (callB 1 f__law_drive nilM) (bin2 addD (conM (.int 1)) (callB 1 f__law_take (consM (persM (conM (.int 39))) nilM)))) (seqS (setS 4 (callB 1 f__law_roll (consM (persM (conM (.int 10))) (consM (persM (lstM (consM (persM (conM (.int 2))) (consM (persM (conM (.int 5))) nilM)))) nilM)))) (seqS (setS 5 (lstM nilM)) (seqS l_law_3 (seqS l_law_2 (seqS (setS 15 (bin2 addD (conM (.int 1)) (callB 1 f__law_take (consM (persM (conM (.int 40))) nilM)))) (seqS (setS 16 (bin2 addD (conM (.int 1)) (callB 1 f__law_take (consM (persM (conM (.int 50))) nilM)))) (seqS (setS 17 (callM tupleD (opd1 c_law_2))) (seqS (setS 18 (tupM (consM (persM (conM (.int 0))) (consM (persM (bin2 addD (conM (.int 1)) (callB 1 f__law_take (consM (persM (conM (.int 50))) nilM)))) (consM (persM (tupM (consM (persM (tupM (consM (persM (conM (.int 0))) (consM (persM (varM 15)) nilM)))) nilM))) nilM))))) (seqS l_law_1 (seqS (setS 22 (callM sortD (opd1 c_law_0))) (seqS (ifS (boolM (bin2 neD (varM 22) (callF f_played (consM (persM (varM 2)) (consM (persM (varM 3)) (consM (persM (callF f_moved (consM (persM (varM 4)) (consM (persM (conM (.int 3))) nilM)))) nilM)))))) (seqS (retS (conM (.bool false))) passS) passS) passS))))))))))))
end K07

namespace K07
open PySem PySem.Spec PyProof.Rows L2 DL LW
def topS (i : Nat) : Stmt := PySem.Challenge.pw_rollpiano_k07_whole_wider_bars_and_later.main.body.getD i (.Pass ⟨0, 0, 0, 0⟩)
abbrev CON : List (Str × PyData) := [("MOST_START", (.int 40)), ("MOST_TICK", (.int 1000000)), ("MOST_LEVERS", (.int 20)), ("MOST_TURN", (.int 50)), ("MOST_GROW", (.int 5)), ("MOST_WIDTH", (.int 40)), ("LAST_LANE", (.int 19)), ("MOST_SPOT", (.int 20000)), ("MOST_HOLES", (.int 200)), ("FIRST_KEY", (.int 2)), ("ACCENT", (.int 1)), ("PEDAL", (.int 0))]
abbrev EXS : List Str := ["NoDrive", "NoRoll"]
abbrev st_is_whole : Stmt := topS 11
theorem S_is_whole : FnScope ["thing"] ["thing"] (defScope st_is_whole) := ⟨rfl, rfl, rfl, by decide +kernel, rfl, by decide +kernel, by decide +kernel⟩
theorem b_is_whole : bodyS (tcOf ["thing"] (defScope st_is_whole) [] CON EXS []) (defBody st_is_whole) = some t_is_whole := by kernel_rfl
abbrev st_is_within : Stmt := topS 12
theorem S_is_within : FnScope ["thing", "low", "high"] ["thing", "low", "high"] (defScope st_is_within) := ⟨rfl, rfl, rfl, by decide +kernel, rfl, by decide +kernel, by decide +kernel⟩
theorem b_is_within : bodyS (tcOf ["thing", "low", "high"] (defScope st_is_within) [("is_whole", false, f_is_whole)] CON EXS []) (defBody st_is_within) = some t_is_within := by kernel_rfl
abbrev st_are_rows : Stmt := topS 13
theorem S_are_rows : FnScope ["thing", "size", "high", "row"] ["thing", "size", "high"] (defScope st_are_rows) := ⟨rfl, rfl, rfl, by decide +kernel, rfl, by decide +kernel, by decide +kernel⟩
theorem b_are_rows : bodyS (tcOf ["thing", "size", "high", "row"] (defScope st_are_rows) [] CON EXS []) (defBody st_are_rows) = some t_are_rows := by kernel_rfl
abbrev st_are_levers : Stmt := topS 14
theorem S_are_levers : FnScope ["thing", "tick", "start", "one", "other"] ["thing"] (defScope st_are_levers) := ⟨rfl, rfl, rfl, by decide +kernel, rfl, by decide +kernel, by decide +kernel⟩
theorem b_are_levers : bodyS (tcOf ["thing", "tick", "start", "one", "other"] (defScope st_are_levers) [("is_within", false, f_is_within), ("are_rows", false, f_are_rows)] CON EXS []) (defBody st_are_levers) = some t_are_levers := by kernel_rfl
abbrev st_is_drive : Stmt := topS 15
theorem S_is_drive : FnScope ["thing"] ["thing"] (defScope st_is_drive) := ⟨rfl, rfl, rfl, by decide +kernel, rfl, by decide +kernel, by decide +kernel⟩
theorem b_is_drive : bodyS (tcOf ["thing"] (defScope st_is_drive) [("are_levers", false, f_are_levers), ("is_within", false, f_is_within)] CON EXS []) (defBody st_is_drive) = some t_is_drive := by kernel_rfl
abbrev st_is_width : Stmt := topS 16
theorem S_is_width : FnScope ["thing"] ["thing"] (defScope st_is_width) := ⟨rfl, rfl, rfl, by decide +kernel, rfl, by decide +kernel, by decide +kernel⟩
theorem b_is_width : bodyS (tcOf ["thing"] (defScope st_is_width) [("is_within", false, f_is_within)] CON EXS []) (defBody st_is_width) = some t_is_width := by kernel_rfl
abbrev st_look_at_drive : Stmt := topS 17
theorem S_look_at_drive : FnScope ["drive"] ["drive"] (defScope st_look_at_drive) := ⟨rfl, rfl, rfl, by decide +kernel, rfl, by decide +kernel, by decide +kernel⟩
theorem b_look_at_drive : bodyS (tcOf ["drive"] (defScope st_look_at_drive) [("is_drive", false, f_is_drive)] CON EXS []) (defBody st_look_at_drive) = some t_look_at_drive := by kernel_rfl
abbrev st_look_at_bar : Stmt := topS 18
theorem S_look_at_bar : FnScope ["drive", "width"] ["drive", "width"] (defScope st_look_at_bar) := ⟨rfl, rfl, rfl, by decide +kernel, rfl, by decide +kernel, by decide +kernel⟩
theorem b_look_at_bar : bodyS (tcOf ["drive", "width"] (defScope st_look_at_bar) [("is_width", false, f_is_width), ("look_at_drive", false, f_look_at_drive)] CON EXS []) (defBody st_look_at_bar) = some t_look_at_bar := by kernel_rfl
abbrev st_passed_by : Stmt := topS 19
theorem S_passed_by : FnScope ["drive", "tick", "grow", "turn", "levers", "full", "found", "ends", "row", "begin", "start", "end"] ["drive", "tick"] (defScope st_passed_by) := ⟨rfl, rfl, rfl, by decide +kernel, rfl, by decide +kernel, by decide +kernel⟩
theorem b_passed_by : bodyS (tcOf ["drive", "tick", "grow", "turn", "levers", "full", "found", "ends", "row", "begin", "start", "end"] (defScope st_passed_by) [] CON EXS [6]) (defBody st_passed_by) = some t_passed_by := by kernel_rfl
abbrev st_tick_by : Stmt := topS 20
theorem S_tick_by : FnScope ["drive", "spot", "high", "low", "middle"] ["drive", "spot"] (defScope st_tick_by) := ⟨rfl, rfl, rfl, by decide +kernel, rfl, by decide +kernel, by decide +kernel⟩
theorem b_tick_by : bodyS (tcOf ["drive", "spot", "high", "low", "middle"] (defScope st_tick_by) [("passed_by", false, f_passed_by)] CON EXS []) (defBody st_tick_by) = some t_tick_by := by kernel_rfl
abbrev st_is_lane : Stmt := topS 28
theorem S_is_lane : FnScope ["thing"] ["thing"] (defScope st_is_lane) := ⟨rfl, rfl, rfl, by decide +kernel, rfl, by decide +kernel, by decide +kernel⟩
theorem b_is_lane : bodyS (tcOf ["thing"] (defScope st_is_lane) [("is_within", false, f_is_within)] CON EXS []) (defBody st_is_lane) = some t_is_lane := by kernel_rfl
abbrev st_is_hole : Stmt := topS 29
theorem S_is_hole : FnScope ["thing"] ["thing"] (defScope st_is_hole) := ⟨rfl, rfl, rfl, by decide +kernel, rfl, by decide +kernel, by decide +kernel⟩
theorem b_is_hole : bodyS (tcOf ["thing"] (defScope st_is_hole) [("is_within", false, f_is_within), ("is_lane", false, f_is_lane)] CON EXS []) (defBody st_is_hole) = some t_is_hole := by kernel_rfl
abbrev st_is_roll : Stmt := topS 30
theorem S_is_roll : FnScope ["thing", "row", "one", "other"] ["thing"] (defScope st_is_roll) := ⟨rfl, rfl, rfl, by decide +kernel, rfl, by decide +kernel, by decide +kernel⟩
theorem b_is_roll : bodyS (tcOf ["thing", "row", "one", "other"] (defScope st_is_roll) [("is_hole", false, f_is_hole), ("are_rows", false, f_are_rows)] CON EXS []) (defBody st_is_roll) = some t_is_roll := by kernel_rfl
abbrev st_look_at_roll : Stmt := topS 31
theorem S_look_at_roll : FnScope ["roll"] ["roll"] (defScope st_look_at_roll) := ⟨rfl, rfl, rfl, by decide +kernel, rfl, by decide +kernel, by decide +kernel⟩
theorem b_look_at_roll : bodyS (tcOf ["roll"] (defScope st_look_at_roll) [("is_roll", false, f_is_roll)] CON EXS []) (defBody st_look_at_roll) = some t_look_at_roll := by kernel_rfl
abbrev st_lane_of : Stmt := topS 32
theorem S_lane_of : FnScope ["roll", "lane", "row"] ["roll", "lane"] (defScope st_lane_of) := ⟨rfl, rfl, rfl, by decide +kernel, rfl, by decide +kernel, by decide +kernel⟩
theorem b_lane_of : bodyS (tcOf ["roll", "lane", "row"] (defScope st_lane_of) [] CON EXS []) (defBody st_lane_of) = some t_lane_of := by kernel_rfl
abbrev st_moved : Stmt := topS 33
theorem S_moved : FnScope ["roll", "by", "found", "lane", "first", "last", "there"] ["roll", "by"] (defScope st_moved) := ⟨rfl, rfl, rfl, by decide +kernel, rfl, by decide +kernel, by decide +kernel⟩
theorem b_moved : bodyS (tcOf ["roll", "by", "found", "lane", "first", "last", "there"] (defScope st_moved) [("look_at_roll", false, f_look_at_roll)] CON EXS []) (defBody st_moved) = some t_moved := by kernel_rfl
abbrev st_first_tick : Stmt := topS 35
theorem S_first_tick : FnScope ["drive", "spot"] ["drive", "spot"] (defScope st_first_tick) := ⟨rfl, rfl, rfl, by decide +kernel, rfl, by decide +kernel, by decide +kernel⟩
theorem b_first_tick : bodyS (tcOf ["drive", "spot"] (defScope st_first_tick) [("tick_by", false, f_tick_by)] CON EXS []) (defBody st_first_tick) = some t_first_tick := by kernel_rfl
abbrev st_stretches_by : Stmt := topS 36
theorem S_stretches_by : FnScope ["drive", "width", "roll", "lane", "found", "first", "last", "begin", "end"] ["drive", "width", "roll", "lane"] (defScope st_stretches_by) := ⟨rfl, rfl, rfl, by decide +kernel, rfl, by decide +kernel, by decide +kernel⟩
theorem b_stretches_by : bodyS (tcOf ["drive", "width", "roll", "lane", "found", "first", "last", "begin", "end"] (defScope st_stretches_by) [("tick_by", false, f_tick_by), ("first_tick", false, f_first_tick), ("lane_of", false, f_lane_of)] CON EXS []) (defBody st_stretches_by) = some t_stretches_by := by kernel_rfl
abbrev st_stretches : Stmt := topS 37
theorem S_stretches : FnScope ["drive", "width", "roll", "lane"] ["drive", "width", "roll", "lane"] (defScope st_stretches) := ⟨rfl, rfl, rfl, by decide +kernel, rfl, by decide +kernel, by decide +kernel⟩
theorem b_stretches : bodyS (tcOf ["drive", "width", "roll", "lane"] (defScope st_stretches) [("stretches_by", false, f_stretches_by), ("is_lane", false, f_is_lane), ("look_at_roll", false, f_look_at_roll), ("look_at_bar", false, f_look_at_bar)] CON EXS []) (defBody st_stretches) = some t_stretches := by kernel_rfl
abbrev st_is_in : Stmt := topS 38
theorem S_is_in : FnScope ["some", "tick", "begin", "end"] ["some", "tick"] (defScope st_is_in) := ⟨rfl, rfl, rfl, by decide +kernel, rfl, by decide +kernel, by decide +kernel⟩
theorem b_is_in : bodyS (tcOf ["some", "tick", "begin", "end"] (defScope st_is_in) [] CON EXS []) (defBody st_is_in) = some t_is_in := by kernel_rfl
abbrev st_sounded_to : Stmt := topS 39
theorem S_sounded_to : FnScope ["end", "following", "pedals", "begin", "over"] ["end", "following", "pedals"] (defScope st_sounded_to) := ⟨rfl, rfl, rfl, by decide +kernel, rfl, by decide +kernel, by decide +kernel⟩
theorem b_sounded_to : bodyS (tcOf ["end", "following", "pedals", "begin", "over"] (defScope st_sounded_to) [] CON EXS [0]) (defBody st_sounded_to) = some t_sounded_to := by kernel_rfl
abbrev st_played : Stmt := topS 40
theorem S_played : FnScope ["drive", "width", "roll", "pedals", "accents", "found", "key", "some", "follows", "begin", "end", "following"] ["drive", "width", "roll"] (defScope st_played) := ⟨rfl, rfl, rfl, by decide +kernel, rfl, by decide +kernel, by decide +kernel⟩
theorem b_played : bodyS (tcOf ["drive", "width", "roll", "pedals", "accents", "found", "key", "some", "follows", "begin", "end", "following"] (defScope st_played) [("is_in", false, f_is_in), ("sounded_to", false, f_sounded_to), ("stretches_by", false, f_stretches_by), ("look_at_roll", false, f_look_at_roll), ("look_at_bar", false, f_look_at_bar)] CON EXS []) (defBody st_played) = some t_played := by kernel_rfl
abbrev st__law_well : Stmt := topS 42
theorem S__law_well : FnScope ["cell", "turn"] ["cell", "turn"] (defScope st__law_well) := ⟨rfl, rfl, rfl, by decide +kernel, rfl, by decide +kernel, by decide +kernel⟩
theorem b__law_well : bodyS (tcOf ["cell", "turn"] (defScope st__law_well) [] CON EXS []) (defBody st__law_well) = some t__law_well := by kernel_rfl
abbrev st__law_take : Stmt := topS 43
theorem S__law_take : FnScope ["bag", "many", "found", "p", "n"] ["bag", "many"] (defScope st__law_take) := ⟨rfl, rfl, rfl, by decide +kernel, rfl, by decide +kernel, by decide +kernel⟩
theorem b__law_take : bodyS (tcOf ["bag", "many", "found", "p", "n"] (defScope st__law_take) [] CON EXS []) (defBody st__law_take) = some t__law_take := by kernel_rfl
abbrev st__law_drive : Stmt := topS 45
theorem S__law_drive : FnScope ["bag", "grow", "levers1", "tick", "turn"] ["bag"] (defScope st__law_drive) := ⟨rfl, rfl, rfl, by decide +kernel, rfl, by decide +kernel, by decide +kernel⟩
theorem b__law_drive : bodyS (tcOf ["bag", "grow", "levers1", "tick", "turn"] (defScope st__law_drive) [("_law_take", true, f__law_take)] CON EXS [3]) (defBody st__law_drive) = some t__law_drive := by kernel_rfl
abbrev st__law_roll : Stmt := topS 46
theorem S__law_roll : FnScope ["bag", "holes1", "lanes", "rows", "turn", "lane", "last", "first", "found"] ["bag", "holes1", "lanes"] (defScope st__law_roll) := ⟨rfl, rfl, rfl, by decide +kernel, rfl, by decide +kernel, by decide +kernel⟩
theorem b__law_roll : bodyS (tcOf ["bag", "holes1", "lanes", "rows", "turn", "lane", "last", "first", "found"] (defScope st__law_roll) [("_law_take", true, f__law_take)] CON EXS [8]) (defBody st__law_roll) = some t__law_roll := by kernel_rfl
abbrev st__law_ticks : Stmt := topS 47
theorem S__law_ticks : FnScope ["some", "found", "begin", "end", "tick"] ["some"] (defScope st__law_ticks) := ⟨rfl, rfl, rfl, by decide +kernel, rfl, by decide +kernel, by decide +kernel⟩
theorem b__law_ticks : bodyS (tcOf ["some", "found", "begin", "end", "tick"] (defScope st__law_ticks) [] CON EXS []) (defBody st__law_ticks) = some t__law_ticks := by kernel_rfl
abbrev st_law : Stmt := topS 48
theorem S_law : FnScope ["script", "bag", "drive", "width", "roll", "longer", "lane", "first", "last", "there", "row", "ticks", "wide", "more", "tick", "pace", "by", "later", "even", "some", "begin", "end", "keys"] ["script"] (defScope st_law) := ⟨rfl, rfl, rfl, by decide +kernel, rfl, by decide +kernel, by decide +kernel⟩
def law_body : List Stmt := match defBody st_law with | (.For _ _ b _ _) :: _ => b | _ => []
theorem b_law : bodyS (tcOf ["script", "bag", "drive", "width", "roll", "longer", "lane", "first", "last", "there", "row", "ticks", "wide", "more", "tick", "pace", "by", "later", "even", "some", "begin", "end", "keys"] (defScope st_law) [("played", false, f_played), ("moved", false, f_moved), ("stretches", false, f_stretches), ("_law_take", true, f__law_take), ("_law_ticks", false, f__law_ticks), ("_law_roll", true, f__law_roll), ("_law_drive", true, f__law_drive)] CON EXS []) law_body = some t_law := by kernel_rfl
abbrev st__law_bags : Stmt := topS 44
theorem S__law_bags : FnScope ["script", "most", "k", "cell"] ["script", "most"] (defScope st__law_bags) := ⟨rfl, rfl, rfl, by decide +kernel, rfl, by decide +kernel, by decide +kernel⟩
end K07

namespace K07
open PySem PySem.Spec PyProof.Rows L2 DL LW
/-! ### moved -/
def mv (h : Ho) : Ho := (h.1 + 3, h.2.1, h.2.2)
theorem mv_ok {r : List Ho} (ok : RollOk r) (h16 : ∀ h ∈ r, h.1 ≤ 16) : RollOk (r.map mv) :=
  ⟨by rw [List.length_map]; exact ok.len, fun x hx => by
    obtain ⟨h, hh, rfl⟩ := List.mem_map.mp hx
    have := ok.in_ h hh
    have := h16 h hh
    unfold mv; dsimp only; omega,
   List.pairwise_map.mpr (ok.up.imp fun {a b} z => by unfold gap mv at *; dsimp only; omega)⟩
theorem gap_lt {r : List Ho} (ok : RollOk r) : r.Pairwise Pln.lt := (List.Pairwise.and_mem.mp ok.up).imp fun {a b} ⟨ha, hb, z⟩ => by
  have := ok.in_ a ha
  show a.1 < b.1 ∨ (a.1 = b.1 ∧ (a.2.1 < b.2.1 ∨ (a.2.1 = b.2.1 ∧ a.2.2 < b.2.2)))
  unfold gap at z; omega
theorem loop_moved {d : PyData} : ∀ (hs : List Ho) (found : List Ho), (∀ h ∈ hs, 2 ≤ h.1 ∧ h.1 ≤ 16) → found.length + hs.length < 5000 →
    loopS (tgT (tgCons (tgN 3) (tgCons (tgN 4) (tgCons (tgN 5) tgNil)))) lb_moved_0 [3, 4, 5, 6] (hs.map Pln.e) [some (.pers, d), some (.pers, .int 3), some (.own, lsD found), none, none, none, none] = .nx [some (.pers, d), some (.pers, .int 3), some (.own, lsD (found ++ hs.map mv)), none, none, none, none]
  | [], found, _, _ => by rw [List.map_nil, List.map_nil, List.append_nil]; rfl
  | h :: hs, found, hh, hl => by
    rw [List.length_cons] at hl
    obtain ⟨h2, h16⟩ := hh h List.mem_cons_self
    have ap : appD (lsD found) (.tuple [.int (h.1 + 3), .int h.2.1, .int h.2.2]) = some (lsD (found ++ [mv h]), .none) := app_ls (a := mv h) (by omega)
    have g1 : h.1 ≥ 2 := h2
    have g2 : (2 : Int) ≤ h.1 + 3 := by omega
    have g3 : h.1 + 3 ≤ 19 := by omega
    have eb : lb_moved_0 [some (.pers, d), some (.pers, .int 3), some (.own, lsD found), some (.pers, .int h.1), some (.pers, .int h.2.1), some (.pers, .int h.2.2), none] = .nx [some (.pers, d), some (.pers, .int 3), some (.own, lsD (found ++ [mv h])), some (.pers, .int h.1), some (.pers, .int h.2.1), some (.pers, .int h.2.2), some (.pers, .int (h.1 + 3))] := by
      unfold lb_moved_0
      simp only [bd_ok, bd_ex, bd_bad, q_pure, q_optS, q_optN, sq_nx, sq_rt, sq_ex, sq_bad, q_seq, q_pass, of_ok, of_ex, of_bad, q_expr, q_if, q_ret, ret_val, ret_new, q_raise, q_var, sv_pers, sv_own, sv_bor, q_con, q_datV, q_datN, q_datS, sd_some, q_optRS, q_optRN, res_t, res_f, q_bin2, q_un1, q_persM, pr_val, pr_new, pr_slot, sp_own, q_mvM, mv_val, mv_new, mv_slot, sm_own, q_set, q_free, fr_none, fr_pers, fr_own, put_val, put_new, q_not, q_andB, q_orB, q_boolM, br_bool, q_andM, q_orM, q_notM, q_ifM, q_chn2, ch_bool, q_cons, q_nil, q_tup, q_lst, q_opd1, q_opd2, q_callM, q_callF, fr_ok, fr_ex, fr_bad, q_callB, ld_own, ld_bor, fb_ok, fb_ex, q_has, has_some, os_ok, ns_some, ms_own, ms_bor, q_st, mt_some, mu_own, mu_bor, q_mutV, q_ownT, ow_own, ow_bor, q_m1, q_m0, q_tgN, q_tg, q_tgR, to_some, tgT_tup, tgT_lst, tgC_cons, tgN_nil, q_for, q_map1, q_walk, so_list, so_tup, wo_list, wo_tup, e_add, e_sub, e_neg, e_lt, e_gt, e_le, e_ge, e_eq, e_ne, e_isN, e_isnN, e_isB, e_isnB, pk_some, e_ixL, e_ixT, e_lastL, e_lastT, e_part, e_intR, e_noPart, e_slice, e_slL, e_slT, q_par, q_par1, q_par2, po_val, po_new, nx_some, q_getM, q_getE, gate_some, go_int, dat_val, q_pop2, ow_dict, fin_nx, fin_rt, fin_ex, bor_t, bor_f, e_lenL, e_lenT, e_abs, e_min, e_max, e_int, e_intB, e_tupL, e_tupT, e_lstL, e_lstT, e_all, e_any, e_sum, e_isa, e_set0, e_set2, Int.reduceLE, Int.reduceLT, Int.reduceToNat, Int.reduceNeg, Int.le_refl, Int.toNat_zero, List.getElem?_cons_zero, List.getElem?_cons_succ, List.set_cons_zero, List.set_cons_succ, Option.bind_some, Bool.false_eq_true, if_true, if_false, ite_true, ite_false, reduceIte, decide_true, decide_false, Bool.not_true, Bool.not_false, List.map_cons, List.map_nil, List.any_cons, List.any_nil, Bool.or_false, Bool.or_true, Bool.true_or, Bool.false_or, Bool.and_true, Bool.true_and, Bool.false_and, Bool.and_false, g1, g2, g3, ap, show ownO "list" (some (some (Kd.own, lsD found))) = true from rfl]
    rw [List.map_cons]
    unfold loopS
    rw [show tgT (tgCons (tgN 3) (tgCons (tgN 4) (tgCons (tgN 5) tgNil))) (Pln.e h) [some (.pers, d), some (.pers, .int 3), some (.own, lsD found), none, none, none, none] = some [some (.pers, d), some (.pers, .int 3), some (.own, lsD found), some (.pers, .int h.1), some (.pers, .int h.2.1), some (.pers, .int h.2.2), none] from rfl]
    dsimp only
    rw [eb]
    refine (loop_moved hs (found ++ [mv h]) (fun x hx => hh x (List.mem_cons_of_mem _ hx)) (by rw [List.length_append, List.length_singleton]; omega)).trans ?_
    rw [List.map_cons, List.append_assoc]; rfl
theorem moved_ok {r : List Ho} (ok : RollOk r) (hh : ∀ h ∈ r, 2 ≤ h.1 ∧ h.1 ≤ 16) : f_moved [tpD r, .int 3] = .ok false (tpD (r.map mv)) .none := by
  refine Eq.trans (run_eq (t := t_moved) (n := 7) (np := 2) (bor := false) rfl) ?_
  rw [show env0 7 false [tpD r, .int 3] = [some (.pers, tpD r), some (.pers, .int 3), none, none, none, none, none] from rfl]
  have hl := ok.len
  have e := loop_moved (d := tpD r) r [] hh (by show 0 + _ < 5000; omega)
  rw [List.nil_append] at e
  have so := sort_ls (r.map mv) (by rw [List.length_map]; omega)
  rw [srt_self (gap_lt (mv_ok ok fun h hm => (hh h hm).2))] at so
  unfold t_moved l_moved_0
  simp only [bd_ok, bd_ex, bd_bad, q_pure, q_optS, q_optN, sq_nx, sq_rt, sq_ex, sq_bad, q_seq, q_pass, of_ok, of_ex, of_bad, q_expr, q_if, q_ret, ret_val, ret_new, q_raise, q_var, sv_pers, sv_own, sv_bor, q_con, q_datV, q_datN, q_datS, sd_some, q_optRS, q_optRN, res_t, res_f, q_bin2, q_un1, q_persM, pr_val, pr_new, pr_slot, sp_own, q_mvM, mv_val, mv_new, mv_slot, sm_own, q_set, q_free, fr_none, fr_pers, fr_own, put_val, put_new, q_not, q_andB, q_orB, q_boolM, br_bool, q_andM, q_orM, q_notM, q_ifM, q_chn2, ch_bool, q_cons, q_nil, q_tup, q_lst, q_opd1, q_opd2, q_callM, q_callF, fr_ok, fr_ex, fr_bad, q_callB, ld_own, ld_bor, fb_ok, fb_ex, q_has, has_some, os_ok, ns_some, ms_own, ms_bor, q_st, mt_some, mu_own, mu_bor, q_mutV, q_ownT, ow_own, ow_bor, q_m1, q_m0, q_tgN, q_tg, q_tgR, to_some, tgT_tup, tgT_lst, tgC_cons, tgN_nil, q_for, q_map1, q_walk, so_list, so_tup, wo_list, wo_tup, e_add, e_sub, e_neg, e_lt, e_gt, e_le, e_ge, e_eq, e_ne, e_isN, e_isnN, e_isB, e_isnB, pk_some, e_ixL, e_ixT, e_lastL, e_lastT, e_part, e_intR, e_noPart, e_slice, e_slL, e_slT, q_par, q_par1, q_par2, po_val, po_new, nx_some, q_getM, q_getE, gate_some, go_int, dat_val, q_pop2, ow_dict, fin_nx, fin_rt, fin_ex, bor_t, bor_f, e_lenL, e_lenT, e_abs, e_min, e_max, e_int, e_intB, e_tupL, e_tupT, e_lstL, e_lstT, e_all, e_any, e_sum, e_isa, e_set0, e_set2, Int.reduceLE, Int.reduceLT, Int.reduceToNat, Int.reduceNeg, Int.le_refl, Int.toNat_zero, List.getElem?_cons_zero, List.getElem?_cons_succ, List.set_cons_zero, List.set_cons_succ, Option.bind_some, Bool.false_eq_true, if_true, if_false, ite_true, ite_false, reduceIte, decide_true, decide_false, Bool.not_true, Bool.not_false, List.map_cons, List.map_nil, List.any_cons, List.any_nil, Bool.or_false, Bool.or_true, Bool.true_or, Bool.false_or, Bool.and_true, Bool.true_and, Bool.false_and, Bool.and_false, look_at_roll_ok ok, show PyData.list [] = lsD ([] : List Ho) from rfl, show walkO (tpD r) = some (r.map Pln.e) from rfl, e, so, tup_ls]
/-! ### _law_ticks -/
def rg (b e : Int) : List Int := (List.range (e - b).toNat).map fun (j : Nat) => b + (j : Int)
theorem rg_mem {b e n : Int} : n ∈ rg b e ↔ b ≤ n ∧ n < e := by
  unfold rg
  rw [List.mem_map]
  constructor
  · rintro ⟨j, hj, rfl⟩
    have := List.mem_range.mp hj
    omega
  · intro z
    exact ⟨(n - b).toNat, List.mem_range.mpr (by omega), by omega⟩
def tkStep (m : List (Int × PyData)) (p : Int × Int) : List (Int × PyData) := (rg p.1 p.2).foldl (fun m k => pput m k (.bool true)) m
def tkm (ss : List (Int × Int)) (m : List (Int × PyData)) : List (Int × PyData) := ss.foldl tkStep m
theorem fold_put_mem {v : PyData} : ∀ (ks : List Int) (m : List (Int × PyData)) (n : Int), n ∈ (ks.foldl (fun m k => pput m k v) m).map (·.1) ↔ n ∈ m.map (·.1) ∨ n ∈ ks
  | [], m, n => by simp
  | k :: ks, m, n => by
    rw [List.foldl_cons, fold_put_mem ks, pput_mem, List.mem_cons]
    exact ⟨fun z => z.elim (fun y => y.elim .inl fun e => .inr (.inl e)) fun y => .inr (.inr y), fun z => z.elim (fun y => .inl (.inl y)) fun y => y.elim (fun e => .inl (.inr e)) .inr⟩
theorem fold_put_len {v : PyData} : ∀ (ks : List Int) (m : List (Int × PyData)), (ks.foldl (fun m k => pput m k v) m).length ≤ m.length + ks.length
  | [], m => Nat.le_refl _
  | k :: ks, m => by
    have h1 := fold_put_len (v := v) ks (pput m k v)
    have h2 := pput_len m k v
    rw [List.foldl_cons, List.length_cons]; omega
theorem tkm_mem : ∀ (ss : List (Int × Int)) (m : List (Int × PyData)) (n : Int), n ∈ (tkm ss m).map (·.1) ↔ n ∈ m.map (·.1) ∨ inS ss n
  | [], m, n => ⟨.inl, fun z => z.elim id fun ⟨p, hp, _⟩ => (by cases hp)⟩
  | p :: ss, m, n => by
    show n ∈ (tkm ss (tkStep m p)).map (·.1) ↔ _
    rw [tkm_mem ss]
    unfold tkStep
    rw [fold_put_mem, rg_mem]
    constructor
    · rintro ((z | z) | ⟨q, hq, z⟩)
      · exact .inl z
      · exact .inr ⟨p, List.mem_cons_self, z⟩
      · exact .inr ⟨q, List.mem_cons_of_mem _ hq, z⟩
    · rintro (z | ⟨q, hq, z⟩)
      · exact .inl (.inl z)
      · rcases List.mem_cons.mp hq with rfl | hq
        · exact .inl (.inr z)
        · exact .inr ⟨q, hq, z⟩
theorem tkm_len : ∀ (ss : List (Int × Int)) (m : List (Int × PyData)), (∀ p ∈ ss, 0 ≤ p.1 ∧ p.1 < p.2 ∧ p.2 ≤ 30000) → (tkm ss m).length ≤ m.length + 30000 * ss.length
  | [], m, _ => by show m.length ≤ _; omega
  | p :: ss, m, hp => by
    have h1 := tkm_len ss (tkStep m p) fun q hq => hp q (List.mem_cons_of_mem _ hq)
    have h2 := fold_put_len (v := .bool true) (rg p.1 p.2) m
    have h3 := hp p List.mem_cons_self
    have lr : (rg p.1 p.2).length ≤ 30000 := by unfold rg; rw [List.length_map, List.length_range]; omega
    show (tkm ss (tkStep m p)).length ≤ _
    unfold tkStep at h1 ⊢
    rw [List.length_cons]; omega
theorem loop_ticks {d : PyData} : ∀ (ss : List (Int × Int)) (m : List (Int × PyData)), (∀ p ∈ ss, 0 ≤ p.1 ∧ p.1 < p.2 ∧ p.2 ≤ 30000) → m.length + 30000 * ss.length ≤ 9000000 →
    loopS (tgT (tgCons (tgN 2) (tgCons (tgN 3) tgNil))) lb__law_ticks_0 [2, 3] (ss.map Pln.e) [some (.pers, d), some (.own, .dict (asD m)), none, none, none] = .nx [some (.pers, d), some (.own, .dict (asD (tkm ss m))), none, none, none]
  | [], m, _, _ => rfl
  | p :: ss, m, hp, hl => by
    rw [List.length_cons] at hl
    obtain ⟨p0, p12, p1⟩ := hp p List.mem_cons_self
    have lr : (rg p.1 p.2).length ≤ 30000 := by unfold rg; rw [List.length_map, List.length_range]; omega
    have c0 : c__law_ticks_0 [some (.pers, d), some (.own, .dict (asD m)), some (.pers, .int p.1), some (.pers, .int p.2), none] = .ok (.new (.list ((rg p.1 p.2).map fun k => PyData.tuple [.int k, .bool true]))) [some (.pers, d), some (.own, .dict (asD m)), some (.pers, .int p.1), some (.pers, .int p.2), none] := by
      have hup := e_range2 (i := p.1) (j := p.2) (by unfold small; simp; omega) (by unfold small; simp; omega)
      rw [show DL.upTo p.1 (p.2 - p.1).toNat = (rg p.1 p.2).map PyData.int by unfold DL.upTo rg; rw [List.map_map]; rfl] at hup
      refine lcm_enc PyData.int (rg p.1 p.2) _ (by simp only [bd_ok, bd_ex, bd_bad, q_pure, q_optS, q_optN, sq_nx, sq_rt, sq_ex, sq_bad, q_seq, q_pass, of_ok, of_ex, of_bad, q_expr, q_if, q_ret, ret_val, ret_new, q_raise, q_var, sv_pers, sv_own, sv_bor, q_con, q_datV, q_datN, q_datS, sd_some, q_optRS, q_optRN, res_t, res_f, q_bin2, q_un1, q_persM, pr_val, pr_new, pr_slot, sp_own, q_mvM, mv_val, mv_new, mv_slot, sm_own, q_set, q_free, fr_none, fr_pers, fr_own, put_val, put_new, q_not, q_andB, q_orB, q_boolM, br_bool, q_andM, q_orM, q_notM, q_ifM, q_chn2, ch_bool, q_cons, q_nil, q_tup, q_lst, q_opd1, q_opd2, q_callM, q_callF, fr_ok, fr_ex, fr_bad, q_callB, ld_own, ld_bor, fb_ok, fb_ex, q_has, has_some, os_ok, ns_some, ms_own, ms_bor, q_st, mt_some, mu_own, mu_bor, q_mutV, q_ownT, ow_own, ow_bor, q_m1, q_m0, q_tgN, q_tg, q_tgR, to_some, tgT_tup, tgT_lst, tgC_cons, tgN_nil, q_for, q_map1, q_walk, so_list, so_tup, wo_list, wo_tup, e_add, e_sub, e_neg, e_lt, e_gt, e_le, e_ge, e_eq, e_ne, e_isN, e_isnN, e_isB, e_isnB, pk_some, e_ixL, e_ixT, e_lastL, e_lastT, e_part, e_intR, e_noPart, e_slice, e_slL, e_slT, q_par, q_par1, q_par2, po_val, po_new, nx_some, q_getM, q_getE, gate_some, go_int, dat_val, q_pop2, ow_dict, fin_nx, fin_rt, fin_ex, bor_t, bor_f, e_lenL, e_lenT, e_abs, e_min, e_max, e_int, e_intB, e_tupL, e_tupT, e_lstL, e_lstT, e_all, e_any, e_sum, e_isa, e_set0, e_set2, Int.reduceLE, Int.reduceLT, Int.reduceToNat, Int.reduceNeg, Int.le_refl, Int.toNat_zero, List.getElem?_cons_zero, List.getElem?_cons_succ, List.set_cons_zero, List.set_cons_succ, Option.bind_some, Bool.false_eq_true, if_true, if_false, ite_true, ite_false, reduceIte, decide_true, decide_false, Bool.not_true, Bool.not_false, List.map_cons, List.map_nil, List.any_cons, List.any_nil, Bool.or_false, Bool.or_true, Bool.true_or, Bool.false_or, Bool.and_true, Bool.true_and, Bool.false_and, Bool.and_false, hup]) rfl (Nat.le_trans lr (by decide)) fun x hx => ⟨[some (.pers, d), some (.own, .dict (asD m)), some (.pers, .int p.1), some (.pers, .int p.2), some (.pers, .int x)], [some (.pers, d), some (.own, .dict (asD m)), some (.pers, .int p.1), some (.pers, .int p.2), some (.pers, .int x)], rfl, ?_, rfl⟩
      unfold ce__law_ticks_0
      simp only [bd_ok, bd_ex, bd_bad, q_pure, q_optS, q_optN, sq_nx, sq_rt, sq_ex, sq_bad, q_seq, q_pass, of_ok, of_ex, of_bad, q_expr, q_if, q_ret, ret_val, ret_new, q_raise, q_var, sv_pers, sv_own, sv_bor, q_con, q_datV, q_datN, q_datS, sd_some, q_optRS, q_optRN, res_t, res_f, q_bin2, q_un1, q_persM, pr_val, pr_new, pr_slot, sp_own, q_mvM, mv_val, mv_new, mv_slot, sm_own, q_set, q_free, fr_none, fr_pers, fr_own, put_val, put_new, q_not, q_andB, q_orB, q_boolM, br_bool, q_andM, q_orM, q_notM, q_ifM, q_chn2, ch_bool, q_cons, q_nil, q_tup, q_lst, q_opd1, q_opd2, q_callM, q_callF, fr_ok, fr_ex, fr_bad, q_callB, ld_own, ld_bor, fb_ok, fb_ex, q_has, has_some, os_ok, ns_some, ms_own, ms_bor, q_st, mt_some, mu_own, mu_bor, q_mutV, q_ownT, ow_own, ow_bor, q_m1, q_m0, q_tgN, q_tg, q_tgR, to_some, tgT_tup, tgT_lst, tgC_cons, tgN_nil, q_for, q_map1, q_walk, so_list, so_tup, wo_list, wo_tup, e_add, e_sub, e_neg, e_lt, e_gt, e_le, e_ge, e_eq, e_ne, e_isN, e_isnN, e_isB, e_isnB, pk_some, e_ixL, e_ixT, e_lastL, e_lastT, e_part, e_intR, e_noPart, e_slice, e_slL, e_slT, q_par, q_par1, q_par2, po_val, po_new, nx_some, q_getM, q_getE, gate_some, go_int, dat_val, q_pop2, ow_dict, fin_nx, fin_rt, fin_ex, bor_t, bor_f, e_lenL, e_lenT, e_abs, e_min, e_max, e_int, e_intB, e_tupL, e_tupT, e_lstL, e_lstT, e_all, e_any, e_sum, e_isa, e_set0, e_set2, Int.reduceLE, Int.reduceLT, Int.reduceToNat, Int.reduceNeg, Int.le_refl, Int.toNat_zero, List.getElem?_cons_zero, List.getElem?_cons_succ, List.set_cons_zero, List.set_cons_succ, Option.bind_some, Bool.false_eq_true, if_true, if_false, ite_true, ite_false, reduceIte, decide_true, decide_false, Bool.not_true, Bool.not_false, List.map_cons, List.map_nil, List.any_cons, List.any_nil, Bool.or_false, Bool.or_true, Bool.true_or, Bool.false_or, Bool.and_true, Bool.true_and, Bool.false_and, Bool.and_false]
    have up := upd_as m (rg p.1 p.2) (.bool true) (by omega)
    have eb : lb__law_ticks_0 [some (.pers, d), some (.own, .dict (asD m)), some (.pers, .int p.1), some (.pers, .int p.2), none] = .nx [some (.pers, d), some (.own, .dict (asD (tkStep m p))), some (.pers, .int p.1), some (.pers, .int p.2), none] := by
      unfold lb__law_ticks_0
      simp only [bd_ok, bd_ex, bd_bad, q_pure, q_optS, q_optN, sq_nx, sq_rt, sq_ex, sq_bad, q_seq, q_pass, of_ok, of_ex, of_bad, q_expr, q_if, q_ret, ret_val, ret_new, q_raise, q_var, sv_pers, sv_own, sv_bor, q_con, q_datV, q_datN, q_datS, sd_some, q_optRS, q_optRN, res_t, res_f, q_bin2, q_un1, q_persM, pr_val, pr_new, pr_slot, sp_own, q_mvM, mv_val, mv_new, mv_slot, sm_own, q_set, q_free, fr_none, fr_pers, fr_own, put_val, put_new, q_not, q_andB, q_orB, q_boolM, br_bool, q_andM, q_orM, q_notM, q_ifM, q_chn2, ch_bool, q_cons, q_nil, q_tup, q_lst, q_opd1, q_opd2, q_callM, q_callF, fr_ok, fr_ex, fr_bad, q_callB, ld_own, ld_bor, fb_ok, fb_ex, q_has, has_some, os_ok, ns_some, ms_own, ms_bor, q_st, mt_some, mu_own, mu_bor, q_mutV, q_ownT, ow_own, ow_bor, q_m1, q_m0, q_tgN, q_tg, q_tgR, to_some, tgT_tup, tgT_lst, tgC_cons, tgN_nil, q_for, q_map1, q_walk, so_list, so_tup, wo_list, wo_tup, e_add, e_sub, e_neg, e_lt, e_gt, e_le, e_ge, e_eq, e_ne, e_isN, e_isnN, e_isB, e_isnB, pk_some, e_ixL, e_ixT, e_lastL, e_lastT, e_part, e_intR, e_noPart, e_slice, e_slL, e_slT, q_par, q_par1, q_par2, po_val, po_new, nx_some, q_getM, q_getE, gate_some, go_int, dat_val, q_pop2, ow_dict, fin_nx, fin_rt, fin_ex, bor_t, bor_f, e_lenL, e_lenT, e_abs, e_min, e_max, e_int, e_intB, e_tupL, e_tupT, e_lstL, e_lstT, e_all, e_any, e_sum, e_isa, e_set0, e_set2, Int.reduceLE, Int.reduceLT, Int.reduceToNat, Int.reduceNeg, Int.le_refl, Int.toNat_zero, List.getElem?_cons_zero, List.getElem?_cons_succ, List.set_cons_zero, List.set_cons_succ, Option.bind_some, Bool.false_eq_true, if_true, if_false, ite_true, ite_false, reduceIte, decide_true, decide_false, Bool.not_true, Bool.not_false, List.map_cons, List.map_nil, List.any_cons, List.any_nil, Bool.or_false, Bool.or_true, Bool.true_or, Bool.false_or, Bool.and_true, Bool.true_and, Bool.false_and, Bool.and_false, c0, up]
      rfl
    have l2 : (tkStep m p).length ≤ m.length + 30000 := by
      have := fold_put_len (v := .bool true) (rg p.1 p.2) m
      unfold tkStep; omega
    rw [List.map_cons]
    unfold loopS
    rw [show tgT (tgCons (tgN 2) (tgCons (tgN 3) tgNil)) (Pln.e p) [some (.pers, d), some (.own, .dict (asD m)), none, none, none] = some [some (.pers, d), some (.own, .dict (asD m)), some (.pers, .int p.1), some (.pers, .int p.2), none] from rfl]
    dsimp only
    rw [eb]
    exact loop_ticks ss (tkStep m p) (fun q hq => hp q (List.mem_cons_of_mem _ hq)) (by omega)
theorem ticks_ok {ss : List (Int × Int)} (hp : ∀ p ∈ ss, 0 ≤ p.1 ∧ p.1 < p.2 ∧ p.2 ≤ 30000) (hl : ss.length ≤ 250) : f__law_ticks [lsD ss] = .ok true (.dict (asD (tkm ss []))) .none := by
  refine Eq.trans (run_eq (t := t__law_ticks) (n := 5) (np := 1) (bor := false) rfl) ?_
  rw [show env0 5 false [lsD ss] = [some (.pers, lsD ss), none, none, none, none] from rfl]
  have e := loop_ticks (d := lsD ss) ss [] hp (by show 0 + _ ≤ _; omega)
  unfold t__law_ticks l__law_ticks_0
  simp only [bd_ok, bd_ex, bd_bad, q_pure, q_optS, q_optN, sq_nx, sq_rt, sq_ex, sq_bad, q_seq, q_pass, of_ok, of_ex, of_bad, q_expr, q_if, q_ret, ret_val, ret_new, q_raise, q_var, sv_pers, sv_own, sv_bor, q_con, q_datV, q_datN, q_datS, sd_some, q_optRS, q_optRN, res_t, res_f, q_bin2, q_un1, q_persM, pr_val, pr_new, pr_slot, sp_own, q_mvM, mv_val, mv_new, mv_slot, sm_own, q_set, q_free, fr_none, fr_pers, fr_own, put_val, put_new, q_not, q_andB, q_orB, q_boolM, br_bool, q_andM, q_orM, q_notM, q_ifM, q_chn2, ch_bool, q_cons, q_nil, q_tup, q_lst, q_opd1, q_opd2, q_callM, q_callF, fr_ok, fr_ex, fr_bad, q_callB, ld_own, ld_bor, fb_ok, fb_ex, q_has, has_some, os_ok, ns_some, ms_own, ms_bor, q_st, mt_some, mu_own, mu_bor, q_mutV, q_ownT, ow_own, ow_bor, q_m1, q_m0, q_tgN, q_tg, q_tgR, to_some, tgT_tup, tgT_lst, tgC_cons, tgN_nil, q_for, q_map1, q_walk, so_list, so_tup, wo_list, wo_tup, e_add, e_sub, e_neg, e_lt, e_gt, e_le, e_ge, e_eq, e_ne, e_isN, e_isnN, e_isB, e_isnB, pk_some, e_ixL, e_ixT, e_lastL, e_lastT, e_part, e_intR, e_noPart, e_slice, e_slL, e_slT, q_par, q_par1, q_par2, po_val, po_new, nx_some, q_getM, q_getE, gate_some, go_int, dat_val, q_pop2, ow_dict, fin_nx, fin_rt, fin_ex, bor_t, bor_f, e_lenL, e_lenT, e_abs, e_min, e_max, e_int, e_intB, e_tupL, e_tupT, e_lstL, e_lstT, e_all, e_any, e_sum, e_isa, e_set0, e_set2, Int.reduceLE, Int.reduceLT, Int.reduceToNat, Int.reduceNeg, Int.le_refl, Int.toNat_zero, List.getElem?_cons_zero, List.getElem?_cons_succ, List.set_cons_zero, List.set_cons_succ, Option.bind_some, Bool.false_eq_true, if_true, if_false, ite_true, ite_false, reduceIte, decide_true, decide_false, Bool.not_true, Bool.not_false, List.map_cons, List.map_nil, List.any_cons, List.any_nil, Bool.or_false, Bool.or_true, Bool.true_or, Bool.false_or, Bool.and_true, Bool.true_and, Bool.false_and, Bool.and_false, q_dct0, show PyData.dict [] = .dict (asD ([] : List (Int × PyData))) from rfl, show walkO (lsD ss) = some (ss.map Pln.e) from rfl, e]
  rfl
end K07

namespace K07
open PySem PySem.Spec PyProof.Rows L2 DL LW
/-! ### holes a spot longer -/
def nxt (r : List Ho) (h : Ho) : List Ho := r.filter fun x => decide (x.1 = h.1) && decide (x.2.1 = h.2.2 + 2)
def lg (r : List Ho) (h : Ho) : Ho := (h.1, h.2.1, h.2.2 + (if nxt r h = [] then 1 else 0))
theorem lg_ok {r : List Ho} (ok : RollOk r) (h19 : ∀ h ∈ r, h.2.2 ≤ 19000) : RollOk (r.map (lg r)) := by
  refine ⟨by rw [List.length_map]; exact ok.len, fun x hx => ?_, List.pairwise_map.mpr ((List.Pairwise.and_mem.mp ok.up).imp fun {a b} ⟨ha, hb, z⟩ => ?_)⟩
  · obtain ⟨h, hh, rfl⟩ := List.mem_map.mp hx
    have := ok.in_ h hh
    have := h19 h hh
    unfold lg; dsimp only; split <;> omega
  · unfold gap at z ⊢
    unfold lg; dsimp only
    rcases z with z | ⟨z1, z2⟩
    · exact .inl z
    · refine .inr ⟨z1, ?_⟩
      by_cases c : nxt r a = []
      · rw [if_pos c]
        have : ¬ b.2.1 = a.2.2 + 2 := fun e => by
          have : b ∈ nxt r a := List.mem_filter.mpr ⟨hb, by rw [decide_eq_true z1.symm, decide_eq_true e]; rfl⟩
          rw [c] at this; cases this
        omega
      · rw [if_neg c]; omega
section
variable {g t w : Int} {ls : List (Int × Int)} {r : List Ho} {y : PyData}
theorem loop_longer (hr : r.length ≤ 200) : ∀ (hs : List Ho) (acc : List Ho), (∀ h ∈ hs, h ∈ r) → acc.length + hs.length < 5000 →
    loopS (tgT (tgCons (tgN 6) (tgCons (tgN 7) (tgCons (tgN 8) tgNil)))) lb_law_3 [6, 7, 8, 9] (hs.map Pln.e) [none, some (.own, y), some (.pers, drvD g t ls), some (.pers, .int w), some (.pers, tpD r), some (.own, lsD acc), none, none, none, none, none, none, none, none, none, none, none, none, none, none, none, none, none] = .nx [none, some (.own, y), some (.pers, drvD g t ls), some (.pers, .int w), some (.pers, tpD r), some (.own, lsD (acc ++ hs.map (lg r))), none, none, none, none, none, none, none, none, none, none, none, none, none, none, none, none, none]
  | [], acc, _, _ => by rw [List.map_nil, List.map_nil, List.append_nil]; rfl
  | h :: hs, acc, hh, hl => by
    rw [List.length_cons] at hl
    have c4 : c_law_4 [none, some (.own, y), some (.pers, drvD g t ls), some (.pers, .int w), some (.pers, tpD r), some (.own, lsD acc), some (.pers, .int h.1), some (.pers, .int h.2.1), some (.pers, .int h.2.2), none, none, none, none, none, none, none, none, none, none, none, none, none, none] = .ok (.new (lsD (nxt r h))) [none, some (.own, y), some (.pers, drvD g t ls), some (.pers, .int w), some (.pers, tpD r), some (.own, lsD acc), some (.pers, .int h.1), some (.pers, .int h.2.1), some (.pers, .int h.2.2), none, none, none, none, none, none, none, none, none, none, none, none, none, none] := by
      refine lcm_encF Pln.e r (fun x => decide (x.1 = h.1) && decide (x.2.1 = h.2.2 + 2)) Pln.e (by simp only [bd_ok, bd_ex, bd_bad, q_pure, q_optS, q_optN, sq_nx, sq_rt, sq_ex, sq_bad, q_seq, q_pass, of_ok, of_ex, of_bad, q_expr, q_if, q_ret, ret_val, ret_new, q_raise, q_var, sv_pers, sv_own, sv_bor, q_con, q_datV, q_datN, q_datS, sd_some, q_optRS, q_optRN, res_t, res_f, q_bin2, q_un1, q_persM, pr_val, pr_new, pr_slot, sp_own, q_mvM, mv_val, mv_new, mv_slot, sm_own, q_set, q_free, fr_none, fr_pers, fr_own, put_val, put_new, q_not, q_andB, q_orB, q_boolM, br_bool, q_andM, q_orM, q_notM, q_ifM, q_chn2, ch_bool, q_cons, q_nil, q_tup, q_lst, q_opd1, q_opd2, q_callM, q_callF, fr_ok, fr_ex, fr_bad, q_callB, ld_own, ld_bor, fb_ok, fb_ex, q_has, has_some, os_ok, ns_some, ms_own, ms_bor, q_st, mt_some, mu_own, mu_bor, q_mutV, q_ownT, ow_own, ow_bor, q_m1, q_m0, q_tgN, q_tg, q_tgR, to_some, tgT_tup, tgT_lst, tgC_cons, tgN_nil, q_for, q_map1, q_walk, so_list, so_tup, wo_list, wo_tup, e_add, e_sub, e_neg, e_lt, e_gt, e_le, e_ge, e_eq, e_ne, e_isN, e_isnN, e_isB, e_isnB, pk_some, e_ixL, e_ixT, e_lastL, e_lastT, e_part, e_intR, e_noPart, e_slice, e_slL, e_slT, q_par, q_par1, q_par2, po_val, po_new, nx_some, q_getM, q_getE, gate_some, go_int, dat_val, q_pop2, ow_dict, fin_nx, fin_rt, fin_ex, bor_t, bor_f, e_lenL, e_lenT, e_abs, e_min, e_max, e_int, e_intB, e_tupL, e_tupT, e_lstL, e_lstT, e_all, e_any, e_sum, e_isa, e_set0, e_set2, Int.reduceLE, Int.reduceLT, Int.reduceToNat, Int.reduceNeg, Int.le_refl, Int.toNat_zero, List.getElem?_cons_zero, List.getElem?_cons_succ, List.set_cons_zero, List.set_cons_succ, Option.bind_some, Bool.false_eq_true, if_true, if_false, ite_true, ite_false, reduceIte, decide_true, decide_false, Bool.not_true, Bool.not_false, List.map_cons, List.map_nil, List.any_cons, List.any_nil, Bool.or_false, Bool.or_true, Bool.true_or, Bool.false_or, Bool.and_true, Bool.true_and, Bool.false_and, Bool.and_false, show walkO (tpD r) = some (r.map Pln.e) from rfl]) rfl (line20 (by omega)) fun x hx => ?_
      refine ⟨[none, some (.own, y), some (.pers, drvD g t ls), some (.pers, .int w), some (.pers, tpD r), some (.own, lsD acc), some (.pers, .int h.1), some (.pers, .int h.2.1), some (.pers, .int h.2.2), none, some (.pers, Pln.e x), none, none, none, none, none, none, none, none, none, none, none, none], [none, some (.own, y), some (.pers, drvD g t ls), some (.pers, .int w), some (.pers, tpD r), some (.own, lsD acc), some (.pers, .int h.1), some (.pers, .int h.2.1), some (.pers, .int h.2.2), none, some (.pers, Pln.e x), none, none, none, none, none, none, none, none, none, none, none, none], rfl, ?_, fun _ => rfl, fun _ => ⟨[none, some (.own, y), some (.pers, drvD g t ls), some (.pers, .int w), some (.pers, tpD r), some (.own, lsD acc), some (.pers, .int h.1), some (.pers, .int h.2.1), some (.pers, .int h.2.2), none, some (.pers, Pln.e x), none, none, none, none, none, none, none, none, none, none, none, none], ?_, rfl⟩⟩
      · by_cases a : x.1 = h.1
        · simp only [bd_ok, bd_ex, bd_bad, q_pure, q_optS, q_optN, sq_nx, sq_rt, sq_ex, sq_bad, q_seq, q_pass, of_ok, of_ex, of_bad, q_expr, q_if, q_ret, ret_val, ret_new, q_raise, q_var, sv_pers, sv_own, sv_bor, q_con, q_datV, q_datN, q_datS, sd_some, q_optRS, q_optRN, res_t, res_f, q_bin2, q_un1, q_persM, pr_val, pr_new, pr_slot, sp_own, q_mvM, mv_val, mv_new, mv_slot, sm_own, q_set, q_free, fr_none, fr_pers, fr_own, put_val, put_new, q_not, q_andB, q_orB, q_boolM, br_bool, q_andM, q_orM, q_notM, q_ifM, q_chn2, ch_bool, q_cons, q_nil, q_tup, q_lst, q_opd1, q_opd2, q_callM, q_callF, fr_ok, fr_ex, fr_bad, q_callB, ld_own, ld_bor, fb_ok, fb_ex, q_has, has_some, os_ok, ns_some, ms_own, ms_bor, q_st, mt_some, mu_own, mu_bor, q_mutV, q_ownT, ow_own, ow_bor, q_m1, q_m0, q_tgN, q_tg, q_tgR, to_some, tgT_tup, tgT_lst, tgC_cons, tgN_nil, q_for, q_map1, q_walk, so_list, so_tup, wo_list, wo_tup, e_add, e_sub, e_neg, e_lt, e_gt, e_le, e_ge, e_eq, e_ne, e_isN, e_isnN, e_isB, e_isnB, pk_some, e_ixL, e_ixT, e_lastL, e_lastT, e_part, e_intR, e_noPart, e_slice, e_slL, e_slT, q_par, q_par1, q_par2, po_val, po_new, nx_some, q_getM, q_getE, gate_some, go_int, dat_val, q_pop2, ow_dict, fin_nx, fin_rt, fin_ex, bor_t, bor_f, e_lenL, e_lenT, e_abs, e_min, e_max, e_int, e_intB, e_tupL, e_tupT, e_lstL, e_lstT, e_all, e_any, e_sum, e_isa, e_set0, e_set2, Int.reduceLE, Int.reduceLT, Int.reduceToNat, Int.reduceNeg, Int.le_refl, Int.toNat_zero, List.getElem?_cons_zero, List.getElem?_cons_succ, List.set_cons_zero, List.set_cons_succ, Option.bind_some, Bool.false_eq_true, if_true, if_false, ite_true, ite_false, reduceIte, decide_true, decide_false, Bool.not_true, Bool.not_false, List.map_cons, List.map_nil, List.any_cons, List.any_nil, Bool.or_false, Bool.or_true, Bool.true_or, Bool.false_or, Bool.and_true, Bool.true_and, Bool.false_and, Bool.and_false, ho_0, ho_1, a]
        · simp only [bd_ok, bd_ex, bd_bad, q_pure, q_optS, q_optN, sq_nx, sq_rt, sq_ex, sq_bad, q_seq, q_pass, of_ok, of_ex, of_bad, q_expr, q_if, q_ret, ret_val, ret_new, q_raise, q_var, sv_pers, sv_own, sv_bor, q_con, q_datV, q_datN, q_datS, sd_some, q_optRS, q_optRN, res_t, res_f, q_bin2, q_un1, q_persM, pr_val, pr_new, pr_slot, sp_own, q_mvM, mv_val, mv_new, mv_slot, sm_own, q_set, q_free, fr_none, fr_pers, fr_own, put_val, put_new, q_not, q_andB, q_orB, q_boolM, br_bool, q_andM, q_orM, q_notM, q_ifM, q_chn2, ch_bool, q_cons, q_nil, q_tup, q_lst, q_opd1, q_opd2, q_callM, q_callF, fr_ok, fr_ex, fr_bad, q_callB, ld_own, ld_bor, fb_ok, fb_ex, q_has, has_some, os_ok, ns_some, ms_own, ms_bor, q_st, mt_some, mu_own, mu_bor, q_mutV, q_ownT, ow_own, ow_bor, q_m1, q_m0, q_tgN, q_tg, q_tgR, to_some, tgT_tup, tgT_lst, tgC_cons, tgN_nil, q_for, q_map1, q_walk, so_list, so_tup, wo_list, wo_tup, e_add, e_sub, e_neg, e_lt, e_gt, e_le, e_ge, e_eq, e_ne, e_isN, e_isnN, e_isB, e_isnB, pk_some, e_ixL, e_ixT, e_lastL, e_lastT, e_part, e_intR, e_noPart, e_slice, e_slL, e_slT, q_par, q_par1, q_par2, po_val, po_new, nx_some, q_getM, q_getE, gate_some, go_int, dat_val, q_pop2, ow_dict, fin_nx, fin_rt, fin_ex, bor_t, bor_f, e_lenL, e_lenT, e_abs, e_min, e_max, e_int, e_intB, e_tupL, e_tupT, e_lstL, e_lstT, e_all, e_any, e_sum, e_isa, e_set0, e_set2, Int.reduceLE, Int.reduceLT, Int.reduceToNat, Int.reduceNeg, Int.le_refl, Int.toNat_zero, List.getElem?_cons_zero, List.getElem?_cons_succ, List.set_cons_zero, List.set_cons_succ, Option.bind_some, Bool.false_eq_true, if_true, if_false, ite_true, ite_false, reduceIte, decide_true, decide_false, Bool.not_true, Bool.not_false, List.map_cons, List.map_nil, List.any_cons, List.any_nil, Bool.or_false, Bool.or_true, Bool.true_or, Bool.false_or, Bool.and_true, Bool.true_and, Bool.false_and, Bool.and_false, ho_0, ho_1, a]
      · unfold ce_law_4
        simp only [bd_ok, bd_ex, bd_bad, q_pure, q_optS, q_optN, sq_nx, sq_rt, sq_ex, sq_bad, q_seq, q_pass, of_ok, of_ex, of_bad, q_expr, q_if, q_ret, ret_val, ret_new, q_raise, q_var, sv_pers, sv_own, sv_bor, q_con, q_datV, q_datN, q_datS, sd_some, q_optRS, q_optRN, res_t, res_f, q_bin2, q_un1, q_persM, pr_val, pr_new, pr_slot, sp_own, q_mvM, mv_val, mv_new, mv_slot, sm_own, q_set, q_free, fr_none, fr_pers, fr_own, put_val, put_new, q_not, q_andB, q_orB, q_boolM, br_bool, q_andM, q_orM, q_notM, q_ifM, q_chn2, ch_bool, q_cons, q_nil, q_tup, q_lst, q_opd1, q_opd2, q_callM, q_callF, fr_ok, fr_ex, fr_bad, q_callB, ld_own, ld_bor, fb_ok, fb_ex, q_has, has_some, os_ok, ns_some, ms_own, ms_bor, q_st, mt_some, mu_own, mu_bor, q_mutV, q_ownT, ow_own, ow_bor, q_m1, q_m0, q_tgN, q_tg, q_tgR, to_some, tgT_tup, tgT_lst, tgC_cons, tgN_nil, q_for, q_map1, q_walk, so_list, so_tup, wo_list, wo_tup, e_add, e_sub, e_neg, e_lt, e_gt, e_le, e_ge, e_eq, e_ne, e_isN, e_isnN, e_isB, e_isnB, pk_some, e_ixL, e_ixT, e_lastL, e_lastT, e_part, e_intR, e_noPart, e_slice, e_slL, e_slT, q_par, q_par1, q_par2, po_val, po_new, nx_some, q_getM, q_getE, gate_some, go_int, dat_val, q_pop2, ow_dict, fin_nx, fin_rt, fin_ex, bor_t, bor_f, e_lenL, e_lenT, e_abs, e_min, e_max, e_int, e_intB, e_tupL, e_tupT, e_lstL, e_lstT, e_all, e_any, e_sum, e_isa, e_set0, e_set2, Int.reduceLE, Int.reduceLT, Int.reduceToNat, Int.reduceNeg, Int.le_refl, Int.toNat_zero, List.getElem?_cons_zero, List.getElem?_cons_succ, List.set_cons_zero, List.set_cons_succ, Option.bind_some, Bool.false_eq_true, if_true, if_false, ite_true, ite_false, reduceIte, decide_true, decide_false, Bool.not_true, Bool.not_false, List.map_cons, List.map_nil, List.any_cons, List.any_nil, Bool.or_false, Bool.or_true, Bool.true_or, Bool.false_or, Bool.and_true, Bool.true_and, Bool.false_and, Bool.and_false]
    have ap : appD (lsD acc) (.tuple [.int h.1, .int h.2.1, .int (h.2.2 + (if nxt r h = [] then 1 else 0))]) = some (lsD (acc ++ [lg r h]), .none) := app_ls (a := lg r h) (by omega)
    have eb : lb_law_3 [none, some (.own, y), some (.pers, drvD g t ls), some (.pers, .int w), some (.pers, tpD r), some (.own, lsD acc), some (.pers, .int h.1), some (.pers, .int h.2.1), some (.pers, .int h.2.2), none, none, none, none, none, none, none, none, none, none, none, none, none, none] = .nx [none, some (.own, y), some (.pers, drvD g t ls), some (.pers, .int w), some (.pers, tpD r), some (.own, lsD (acc ++ [lg r h])), some (.pers, .int h.1), some (.pers, .int h.2.1), some (.pers, .int h.2.2), some (.own, lsD (nxt r h)), none, none, none, none, none, none, none, none, none, none, none, none, none] := by
      unfold lb_law_3
      by_cases c : nxt r h = []
      · rw [if_pos c] at ap
        simp only [bd_ok, bd_ex, bd_bad, q_pure, q_optS, q_optN, sq_nx, sq_rt, sq_ex, sq_bad, q_seq, q_pass, of_ok, of_ex, of_bad, q_expr, q_if, q_ret, ret_val, ret_new, q_raise, q_var, sv_pers, sv_own, sv_bor, q_con, q_datV, q_datN, q_datS, sd_some, q_optRS, q_optRN, res_t, res_f, q_bin2, q_un1, q_persM, pr_val, pr_new, pr_slot, sp_own, q_mvM, mv_val, mv_new, mv_slot, sm_own, q_set, q_free, fr_none, fr_pers, fr_own, put_val, put_new, q_not, q_andB, q_orB, q_boolM, br_bool, q_andM, q_orM, q_notM, q_ifM, q_chn2, ch_bool, q_cons, q_nil, q_tup, q_lst, q_opd1, q_opd2, q_callM, q_callF, fr_ok, fr_ex, fr_bad, q_callB, ld_own, ld_bor, fb_ok, fb_ex, q_has, has_some, os_ok, ns_some, ms_own, ms_bor, q_st, mt_some, mu_own, mu_bor, q_mutV, q_ownT, ow_own, ow_bor, q_m1, q_m0, q_tgN, q_tg, q_tgR, to_some, tgT_tup, tgT_lst, tgC_cons, tgN_nil, q_for, q_map1, q_walk, so_list, so_tup, wo_list, wo_tup, e_add, e_sub, e_neg, e_lt, e_gt, e_le, e_ge, e_eq, e_ne, e_isN, e_isnN, e_isB, e_isnB, pk_some, e_ixL, e_ixT, e_lastL, e_lastT, e_part, e_intR, e_noPart, e_slice, e_slL, e_slT, q_par, q_par1, q_par2, po_val, po_new, nx_some, q_getM, q_getE, gate_some, go_int, dat_val, q_pop2, ow_dict, fin_nx, fin_rt, fin_ex, bor_t, bor_f, e_lenL, e_lenT, e_abs, e_min, e_max, e_int, e_intB, e_tupL, e_tupT, e_lstL, e_lstT, e_all, e_any, e_sum, e_isa, e_set0, e_set2, Int.reduceLE, Int.reduceLT, Int.reduceToNat, Int.reduceNeg, Int.le_refl, Int.toNat_zero, List.getElem?_cons_zero, List.getElem?_cons_succ, List.set_cons_zero, List.set_cons_succ, Option.bind_some, Bool.false_eq_true, if_true, if_false, ite_true, ite_false, reduceIte, decide_true, decide_false, Bool.not_true, Bool.not_false, List.map_cons, List.map_nil, List.any_cons, List.any_nil, Bool.or_false, Bool.or_true, Bool.true_or, Bool.false_or, Bool.and_true, Bool.true_and, Bool.false_and, Bool.and_false, c4, eqD_ls0, c, ap, show ownO "list" (some (some (Kd.own, lsD acc))) = true from rfl]
      · rw [if_neg c] at ap
        simp only [bd_ok, bd_ex, bd_bad, q_pure, q_optS, q_optN, sq_nx, sq_rt, sq_ex, sq_bad, q_seq, q_pass, of_ok, of_ex, of_bad, q_expr, q_if, q_ret, ret_val, ret_new, q_raise, q_var, sv_pers, sv_own, sv_bor, q_con, q_datV, q_datN, q_datS, sd_some, q_optRS, q_optRN, res_t, res_f, q_bin2, q_un1, q_persM, pr_val, pr_new, pr_slot, sp_own, q_mvM, mv_val, mv_new, mv_slot, sm_own, q_set, q_free, fr_none, fr_pers, fr_own, put_val, put_new, q_not, q_andB, q_orB, q_boolM, br_bool, q_andM, q_orM, q_notM, q_ifM, q_chn2, ch_bool, q_cons, q_nil, q_tup, q_lst, q_opd1, q_opd2, q_callM, q_callF, fr_ok, fr_ex, fr_bad, q_callB, ld_own, ld_bor, fb_ok, fb_ex, q_has, has_some, os_ok, ns_some, ms_own, ms_bor, q_st, mt_some, mu_own, mu_bor, q_mutV, q_ownT, ow_own, ow_bor, q_m1, q_m0, q_tgN, q_tg, q_tgR, to_some, tgT_tup, tgT_lst, tgC_cons, tgN_nil, q_for, q_map1, q_walk, so_list, so_tup, wo_list, wo_tup, e_add, e_sub, e_neg, e_lt, e_gt, e_le, e_ge, e_eq, e_ne, e_isN, e_isnN, e_isB, e_isnB, pk_some, e_ixL, e_ixT, e_lastL, e_lastT, e_part, e_intR, e_noPart, e_slice, e_slL, e_slT, q_par, q_par1, q_par2, po_val, po_new, nx_some, q_getM, q_getE, gate_some, go_int, dat_val, q_pop2, ow_dict, fin_nx, fin_rt, fin_ex, bor_t, bor_f, e_lenL, e_lenT, e_abs, e_min, e_max, e_int, e_intB, e_tupL, e_tupT, e_lstL, e_lstT, e_all, e_any, e_sum, e_isa, e_set0, e_set2, Int.reduceLE, Int.reduceLT, Int.reduceToNat, Int.reduceNeg, Int.le_refl, Int.toNat_zero, List.getElem?_cons_zero, List.getElem?_cons_succ, List.set_cons_zero, List.set_cons_succ, Option.bind_some, Bool.false_eq_true, if_true, if_false, ite_true, ite_false, reduceIte, decide_true, decide_false, Bool.not_true, Bool.not_false, List.map_cons, List.map_nil, List.any_cons, List.any_nil, Bool.or_false, Bool.or_true, Bool.true_or, Bool.false_or, Bool.and_true, Bool.true_and, Bool.false_and, Bool.and_false, c4, eqD_ls0, c, ap, show ownO "list" (some (some (Kd.own, lsD acc))) = true from rfl]
    rw [List.map_cons]
    unfold loopS
    rw [show tgT (tgCons (tgN 6) (tgCons (tgN 7) (tgCons (tgN 8) tgNil))) (Pln.e h) [none, some (.own, y), some (.pers, drvD g t ls), some (.pers, .int w), some (.pers, tpD r), some (.own, lsD acc), none, none, none, none, none, none, none, none, none, none, none, none, none, none, none, none, none] = some [none, some (.own, y), some (.pers, drvD g t ls), some (.pers, .int w), some (.pers, tpD r), some (.own, lsD acc), some (.pers, .int h.1), some (.pers, .int h.2.1), some (.pers, .int h.2.2), none, none, none, none, none, none, none, none, none, none, none, none, none, none] from rfl]
    dsimp only
    rw [eb]
    refine (loop_longer hr hs (acc ++ [lg r h]) (fun x hx => hh x (List.mem_cons_of_mem _ hx)) (by rw [List.length_append, List.length_singleton]; omega)).trans ?_
    rw [List.map_cons, List.append_assoc]; rfl
end
/-! ### wider bars, longer holes: at least as many ticks -/
section
variable {g t : Int} {ls : List (Int × Int)} (h : Dr g t ls)
include h
theorem tb_le {s : Int} (h0 : 0 ≤ s) : tb g t ls s ≤ s := by
  obtain ⟨a, b, c⟩ := tb_is h h0
  have := F_nat h (tb g t ls s).toNat
  have e : (((tb g t ls s).toNat : Nat) : Int) = tb g t ls s := Int.toNat_of_nonneg a
  rw [e] at this
  omega
theorem stl_end {w : Int} : ∀ (hs acc : List (Int × Int)) (n : Int), (∀ x ∈ hs, 0 ≤ x.2 ∧ x.2 < n) → (∀ p ∈ acc, p.2 ≤ n) → ∀ p ∈ stl g t ls w hs acc, p.2 ≤ n
  | [], acc, n, _, ha => ha
  | x :: hs, acc, n, hx, ha => by
    refine stl_end hs _ n (fun y hy => hx y (List.mem_cons_of_mem _ hy)) fun p hp => ?_
    obtain ⟨x0, x1⟩ := hx x List.mem_cons_self
    have e1 : en g t ls x.2 ≤ n := by
      have := tb_le h x0
      unfold en; omega
    have hp : p ∈ stp acc (ft g t ls (x.1 - w + 1)) (en g t ls x.2) := hp
    rcases List.eq_nil_or_concat acc with rfl | ⟨pre, l, rfl⟩
    · rw [stp_nil] at hp
      split at hp
      · rw [List.mem_singleton.mp hp]; exact e1
      · cases hp
    · rw [List.concat_eq_append] at hp ha
      rw [stp_snoc] at hp
      have l1 := ha l (by simp)
      split at hp
      · split at hp
        · rcases List.mem_append.mp hp with z | z
          · exact ha p (List.mem_append_left _ z)
          · rw [List.mem_singleton.mp z]; dsimp only; split <;> omega
        · rcases List.mem_append.mp hp with z | z
          · exact ha p z
          · rw [List.mem_singleton.mp z]; exact e1
      · exact ha p hp
theorem stz_end {w : Int} {r : List Ho} (ok : RollOk r) (lane : Int) : ∀ p ∈ stz g t ls w r lane, 0 ≤ p.1 ∧ p.1 < p.2 ∧ p.2 ≤ 30000 := fun p hp => by
  have h1 := (stz_ok h (w := w) ok lane).1.lt p hp
  have h2 := stl_end h (laneL r lane) [] 20001 (fun x hx => by have := lane_in ok hx; omega) (fun p hp => by cases hp) p hp
  omega
theorem wide_in {w : Int} {r : List Ho} (ok : RollOk r) (lane n : Int) (z : inS (stz g t ls w r lane) n) : inS (stz g t ls (w + 1) r lane) n := by
  obtain ⟨n0, x, hx, a, b⟩ := ((stz_ok h ok lane).2 n).mp z
  exact ((stz_ok h ok lane).2 n).mpr ⟨n0, x, hx, by omega, b⟩
theorem long_in {w : Int} {r : List Ho} (ok : RollOk r) (ok2 : RollOk (r.map (lg r))) (lane n : Int) (z : inS (stz g t ls w r lane) n) : inS (stz g t ls w (r.map (lg r)) lane) n := by
  obtain ⟨n0, x, hx, a, b⟩ := ((stz_ok h ok lane).2 n).mp z
  have m := lane_mem.mp hx
  refine ((stz_ok h ok2 lane).2 n).mpr ⟨n0, (lg r (lane, x.1, x.2)).2, lane_mem.mpr (List.mem_map.mpr ⟨_, m, rfl⟩), ?_, ?_⟩
  · unfold lg; dsimp only; exact a
  · unfold lg; dsimp only; split <;> omega
variable {w : Int} {r : List Ho} {y : PyData} (w0 : 1 ≤ w) (w1 : w ≤ 39) (ok : RollOk r) (ok2 : RollOk (r.map (lg r)))
include w0 w1 ok ok2
theorem lane_turn {lane : Int} (l0 : 0 ≤ lane) (l1 : lane ≤ 19) :
    ∃ δ, lb_law_2 [none, some (.own, y), some (.pers, drvD g t ls), some (.pers, .int w), some (.pers, tpD r), some (.own, lsD (r.map (lg r))), some (.pers, .int lane), none, none, none, none, none, none, none, none, none, none, none, none, none, none, none, none] = .nx δ ∧ fgt [6, 11, 12, 13] δ = [none, some (.own, y), some (.pers, drvD g t ls), some (.pers, .int w), some (.pers, tpD r), some (.own, lsD (r.map (lg r))), none, none, none, none, none, none, none, none, none, none, none, none, none, none, none, none, none] := by
  have s1 := stretches_ok h (lane := lane) w0 (by omega : w ≤ 40) ok l0 l1
  have s2 := stretches_ok h (lane := lane) (w := w + 1) (by omega) (by omega) ok l0 l1
  have s3 := stretches_ok h (lane := lane) w0 (by omega : w ≤ 40) ok2 l0 l1
  have hr := ok.len
  have len2 : ∀ w (r' : List Ho), RollOk r' → (stz g t ls w r' lane).length ≤ 250 := fun w r' o => by have := stz_len g t ls w r' lane; have := o.len; omega
  have t1 := ticks_ok (stz_end h (w := w) ok lane) (len2 w r ok)
  have t2 := ticks_ok (stz_end h (w := w + 1) ok lane) (len2 (w + 1) r ok)
  have t3 := ticks_ok (stz_end h (w := w) ok2 lane) (len2 w _ ok2)
  have sub2 := fun n => wide_in h (w := w) ok lane n
  have sub3 := fun n => long_in h (w := w) ok ok2 lane n
  have ln1 := tkm_len (stz g t ls w r lane) [] (stz_end h (w := w) ok lane)
  have ln2 := len2 w r ok
  have ln3 : ([] : List (Int × PyData)).length = 0 := rfl
  generalize stz g t ls w r lane = a1 at s1 t1 sub2 sub3 ln1 ln2
  generalize stz g t ls (w + 1) r lane = a2 at s2 t2 sub2
  generalize stz g t ls w (r.map (lg r)) lane = a3 at s3 t3 sub3
  have m2 : ∀ n ∈ (tkm a1 []).map (·.1), n ∈ (tkm a2 []).map (·.1) := fun n hn => (tkm_mem a2 [] n).mpr (.inr (sub2 n (((tkm_mem a1 [] n).mp hn).elim (fun z => by cases z) id)))
  have m3 : ∀ n ∈ (tkm a1 []).map (·.1), n ∈ (tkm a3 []).map (·.1) := fun n hn => (tkm_mem a3 [] n).mpr (.inr (sub3 n (((tkm_mem a1 [] n).mp hn).elim (fun z => by cases z) id)))
  generalize tkm a1 [] = k1 at *
  generalize tkm a2 [] = k2 at *
  generalize tkm a3 [] = k3 at *
  have c3 : c_law_3 [none, some (.own, y), some (.pers, drvD g t ls), some (.pers, .int w), some (.pers, tpD r), some (.own, lsD (r.map (lg r))), some (.pers, .int lane), none, none, none, none, some (.own, .dict (asD k1)), some (.own, .dict (asD k2)), some (.own, .dict (asD k3)), none, none, none, none, none, none, none, none, none] = .ok (.new (lsD ([] : List Int))) [none, some (.own, y), some (.pers, drvD g t ls), some (.pers, .int w), some (.pers, tpD r), some (.own, lsD (r.map (lg r))), some (.pers, .int lane), none, none, none, none, some (.pers, .dict (asD k1)), some (.own, .dict (asD k2)), some (.own, .dict (asD k3)), none, none, none, none, none, none, none, none, none] := by
    have e : lsD ([] : List Int) = .list (((k1.map (·.1)).filter fun _ => false).map PyData.int) := by rw [List.filter_eq_nil_iff.mpr (by simp)]; rfl
    rw [e]
    have hl9 : (k1.map (·.1)).length ≤ line := by rw [List.length_map]; exact Nat.le_trans (m := 9000000) (by omega) (by decide)
    have wk : (walkM (varM 11)) [none, some (.own, y), some (.pers, drvD g t ls), some (.pers, .int w), some (.pers, tpD r), some (.own, lsD (r.map (lg r))), some (.pers, .int lane), none, none, none, none, some (.own, .dict (asD k1)), some (.own, .dict (asD k2)), some (.own, .dict (asD k3)), none, none, none, none, none, none, none, none, none] = .ok ((k1.map (·.1)).map PyData.int) [none, some (.own, y), some (.pers, drvD g t ls), some (.pers, .int w), some (.pers, tpD r), some (.own, lsD (r.map (lg r))), some (.pers, .int lane), none, none, none, none, some (.pers, .dict (asD k1)), some (.own, .dict (asD k2)), some (.own, .dict (asD k3)), none, none, none, none, none, none, none, none, none] := by simp only [bd_ok, bd_ex, bd_bad, q_pure, q_optS, q_optN, sq_nx, sq_rt, sq_ex, sq_bad, q_seq, q_pass, of_ok, of_ex, of_bad, q_expr, q_if, q_ret, ret_val, ret_new, q_raise, q_var, sv_pers, sv_own, sv_bor, q_con, q_datV, q_datN, q_datS, sd_some, q_optRS, q_optRN, res_t, res_f, q_bin2, q_un1, q_persM, pr_val, pr_new, pr_slot, sp_own, q_mvM, mv_val, mv_new, mv_slot, sm_own, q_set, q_free, fr_none, fr_pers, fr_own, put_val, put_new, q_not, q_andB, q_orB, q_boolM, br_bool, q_andM, q_orM, q_notM, q_ifM, q_chn2, ch_bool, q_cons, q_nil, q_tup, q_lst, q_opd1, q_opd2, q_callM, q_callF, fr_ok, fr_ex, fr_bad, q_callB, ld_own, ld_bor, fb_ok, fb_ex, q_has, has_some, os_ok, ns_some, ms_own, ms_bor, q_st, mt_some, mu_own, mu_bor, q_mutV, q_ownT, ow_own, ow_bor, q_m1, q_m0, q_tgN, q_tg, q_tgR, to_some, tgT_tup, tgT_lst, tgC_cons, tgN_nil, q_for, q_map1, q_walk, so_list, so_tup, wo_list, wo_tup, e_add, e_sub, e_neg, e_lt, e_gt, e_le, e_ge, e_eq, e_ne, e_isN, e_isnN, e_isB, e_isnB, pk_some, e_ixL, e_ixT, e_lastL, e_lastT, e_part, e_intR, e_noPart, e_slice, e_slL, e_slT, q_par, q_par1, q_par2, po_val, po_new, nx_some, q_getM, q_getE, gate_some, go_int, dat_val, q_pop2, ow_dict, fin_nx, fin_rt, fin_ex, bor_t, bor_f, e_lenL, e_lenT, e_abs, e_min, e_max, e_int, e_intB, e_tupL, e_tupT, e_lstL, e_lstT, e_all, e_any, e_sum, e_isa, e_set0, e_set2, Int.reduceLE, Int.reduceLT, Int.reduceToNat, Int.reduceNeg, Int.le_refl, Int.toNat_zero, List.getElem?_cons_zero, List.getElem?_cons_succ, List.set_cons_zero, List.set_cons_succ, Option.bind_some, Bool.false_eq_true, if_true, if_false, ite_true, ite_false, reduceIte, decide_true, decide_false, Bool.not_true, Bool.not_false, List.map_cons, List.map_nil, List.any_cons, List.any_nil, Bool.or_false, Bool.or_true, Bool.true_or, Bool.false_or, Bool.and_true, Bool.true_and, Bool.false_and, Bool.and_false, walk_as]
    have q := lcm_encF (g := tgN 14) (fi := walkM (varM 11)) (t := (orB (boolM (bin2 notInD (varM 14) (varM 12))) (boolM (bin2 notInD (varM 14) (varM 13))))) (e := ce_law_3) (vs := [14]) PyData.int (k1.map (·.1)) (fun _ => false) PyData.int wk rfl hl9 fun x hx => by
      have n2 := notin_as k2 x (.inr rfl)
      have n3 := notin_as k3 x (.inr rfl)
      rw [decide_eq_true (m2 x hx)] at n2
      rw [decide_eq_true (m3 x hx)] at n3
      have n2 : notInD (.int x) (.dict (asD k2)) = some (false, .bool (!true)) := n2
      have n3 : notInD (.int x) (.dict (asD k3)) = some (false, .bool (!true)) := n3
      refine ⟨[none, some (.own, y), some (.pers, drvD g t ls), some (.pers, .int w), some (.pers, tpD r), some (.own, lsD (r.map (lg r))), some (.pers, .int lane), none, none, none, none, some (.pers, .dict (asD k1)), some (.own, .dict (asD k2)), some (.own, .dict (asD k3)), some (.pers, .int x), none, none, none, none, none, none, none, none], [none, some (.own, y), some (.pers, drvD g t ls), some (.pers, .int w), some (.pers, tpD r), some (.own, lsD (r.map (lg r))), some (.pers, .int lane), none, none, none, none, some (.pers, .dict (asD k1)), some (.own, .dict (asD k2)), some (.own, .dict (asD k3)), some (.pers, .int x), none, none, none, none, none, none, none, none], rfl, ?_, fun _ => rfl, fun z => by cases z⟩
      simp only [bd_ok, bd_ex, bd_bad, q_pure, q_optS, q_optN, sq_nx, sq_rt, sq_ex, sq_bad, q_seq, q_pass, of_ok, of_ex, of_bad, q_expr, q_if, q_ret, ret_val, ret_new, q_raise, q_var, sv_pers, sv_own, sv_bor, q_con, q_datV, q_datN, q_datS, sd_some, q_optRS, q_optRN, res_t, res_f, q_bin2, q_un1, q_persM, pr_val, pr_new, pr_slot, sp_own, q_mvM, mv_val, mv_new, mv_slot, sm_own, q_set, q_free, fr_none, fr_pers, fr_own, put_val, put_new, q_not, q_andB, q_orB, q_boolM, br_bool, q_andM, q_orM, q_notM, q_ifM, q_chn2, ch_bool, q_cons, q_nil, q_tup, q_lst, q_opd1, q_opd2, q_callM, q_callF, fr_ok, fr_ex, fr_bad, q_callB, ld_own, ld_bor, fb_ok, fb_ex, q_has, has_some, os_ok, ns_some, ms_own, ms_bor, q_st, mt_some, mu_own, mu_bor, q_mutV, q_ownT, ow_own, ow_bor, q_m1, q_m0, q_tgN, q_tg, q_tgR, to_some, tgT_tup, tgT_lst, tgC_cons, tgN_nil, q_for, q_map1, q_walk, so_list, so_tup, wo_list, wo_tup, e_add, e_sub, e_neg, e_lt, e_gt, e_le, e_ge, e_eq, e_ne, e_isN, e_isnN, e_isB, e_isnB, pk_some, e_ixL, e_ixT, e_lastL, e_lastT, e_part, e_intR, e_noPart, e_slice, e_slL, e_slT, q_par, q_par1, q_par2, po_val, po_new, nx_some, q_getM, q_getE, gate_some, go_int, dat_val, q_pop2, ow_dict, fin_nx, fin_rt, fin_ex, bor_t, bor_f, e_lenL, e_lenT, e_abs, e_min, e_max, e_int, e_intB, e_tupL, e_tupT, e_lstL, e_lstT, e_all, e_any, e_sum, e_isa, e_set0, e_set2, Int.reduceLE, Int.reduceLT, Int.reduceToNat, Int.reduceNeg, Int.le_refl, Int.toNat_zero, List.getElem?_cons_zero, List.getElem?_cons_succ, List.set_cons_zero, List.set_cons_succ, Option.bind_some, Bool.false_eq_true, if_true, if_false, ite_true, ite_false, reduceIte, decide_true, decide_false, Bool.not_true, Bool.not_false, List.map_cons, List.map_nil, List.any_cons, List.any_nil, Bool.or_false, Bool.or_true, Bool.true_or, Bool.false_or, Bool.and_true, Bool.true_and, Bool.false_and, Bool.and_false, n2, n3]
    exact q
  refine ⟨[none, some (.own, y), some (.pers, drvD g t ls), some (.pers, .int w), some (.pers, tpD r), some (.own, lsD (r.map (lg r))), some (.pers, .int lane), none, none, none, none, some (.pers, .dict (asD k1)), some (.own, .dict (asD k2)), some (.own, .dict (asD k3)), none, none, none, none, none, none, none, none, none], ?_, by simp only [bd_ok, bd_ex, bd_bad, q_pure, q_optS, q_optN, sq_nx, sq_rt, sq_ex, sq_bad, q_seq, q_pass, of_ok, of_ex, of_bad, q_expr, q_if, q_ret, ret_val, ret_new, q_raise, q_var, sv_pers, sv_own, sv_bor, q_con, q_datV, q_datN, q_datS, sd_some, q_optRS, q_optRN, res_t, res_f, q_bin2, q_un1, q_persM, pr_val, pr_new, pr_slot, sp_own, q_mvM, mv_val, mv_new, mv_slot, sm_own, q_set, q_free, fr_none, fr_pers, fr_own, put_val, put_new, q_not, q_andB, q_orB, q_boolM, br_bool, q_andM, q_orM, q_notM, q_ifM, q_chn2, ch_bool, q_cons, q_nil, q_tup, q_lst, q_opd1, q_opd2, q_callM, q_callF, fr_ok, fr_ex, fr_bad, q_callB, ld_own, ld_bor, fb_ok, fb_ex, q_has, has_some, os_ok, ns_some, ms_own, ms_bor, q_st, mt_some, mu_own, mu_bor, q_mutV, q_ownT, ow_own, ow_bor, q_m1, q_m0, q_tgN, q_tg, q_tgR, to_some, tgT_tup, tgT_lst, tgC_cons, tgN_nil, q_for, q_map1, q_walk, so_list, so_tup, wo_list, wo_tup, e_add, e_sub, e_neg, e_lt, e_gt, e_le, e_ge, e_eq, e_ne, e_isN, e_isnN, e_isB, e_isnB, pk_some, e_ixL, e_ixT, e_lastL, e_lastT, e_part, e_intR, e_noPart, e_slice, e_slL, e_slT, q_par, q_par1, q_par2, po_val, po_new, nx_some, q_getM, q_getE, gate_some, go_int, dat_val, q_pop2, ow_dict, fin_nx, fin_rt, fin_ex, bor_t, bor_f, e_lenL, e_lenT, e_abs, e_min, e_max, e_int, e_intB, e_tupL, e_tupT, e_lstL, e_lstT, e_all, e_any, e_sum, e_isa, e_set0, e_set2, Int.reduceLE, Int.reduceLT, Int.reduceToNat, Int.reduceNeg, Int.le_refl, Int.toNat_zero, List.getElem?_cons_zero, List.getElem?_cons_succ, List.set_cons_zero, List.set_cons_succ, Option.bind_some, Bool.false_eq_true, if_true, if_false, ite_true, ite_false, reduceIte, decide_true, decide_false, Bool.not_true, Bool.not_false, List.map_cons, List.map_nil, List.any_cons, List.any_nil, Bool.or_false, Bool.or_true, Bool.true_or, Bool.false_or, Bool.and_true, Bool.true_and, Bool.false_and, Bool.and_false, fgt]⟩
  have z := neD_ls0 ([] : List Int)
  unfold lb_law_2
  simp only [bd_ok, bd_ex, bd_bad, q_pure, q_optS, q_optN, sq_nx, sq_rt, sq_ex, sq_bad, q_seq, q_pass, of_ok, of_ex, of_bad, q_expr, q_if, q_ret, ret_val, ret_new, q_raise, q_var, sv_pers, sv_own, sv_bor, q_con, q_datV, q_datN, q_datS, sd_some, q_optRS, q_optRN, res_t, res_f, q_bin2, q_un1, q_persM, pr_val, pr_new, pr_slot, sp_own, q_mvM, mv_val, mv_new, mv_slot, sm_own, q_set, q_free, fr_none, fr_pers, fr_own, put_val, put_new, q_not, q_andB, q_orB, q_boolM, br_bool, q_andM, q_orM, q_notM, q_ifM, q_chn2, ch_bool, q_cons, q_nil, q_tup, q_lst, q_opd1, q_opd2, q_callM, q_callF, fr_ok, fr_ex, fr_bad, q_callB, ld_own, ld_bor, fb_ok, fb_ex, q_has, has_some, os_ok, ns_some, ms_own, ms_bor, q_st, mt_some, mu_own, mu_bor, q_mutV, q_ownT, ow_own, ow_bor, q_m1, q_m0, q_tgN, q_tg, q_tgR, to_some, tgT_tup, tgT_lst, tgC_cons, tgN_nil, q_for, q_map1, q_walk, so_list, so_tup, wo_list, wo_tup, e_add, e_sub, e_neg, e_lt, e_gt, e_le, e_ge, e_eq, e_ne, e_isN, e_isnN, e_isB, e_isnB, pk_some, e_ixL, e_ixT, e_lastL, e_lastT, e_part, e_intR, e_noPart, e_slice, e_slL, e_slT, q_par, q_par1, q_par2, po_val, po_new, nx_some, q_getM, q_getE, gate_some, go_int, dat_val, q_pop2, ow_dict, fin_nx, fin_rt, fin_ex, bor_t, bor_f, e_lenL, e_lenT, e_abs, e_min, e_max, e_int, e_intB, e_tupL, e_tupT, e_lstL, e_lstT, e_all, e_any, e_sum, e_isa, e_set0, e_set2, Int.reduceLE, Int.reduceLT, Int.reduceToNat, Int.reduceNeg, Int.le_refl, Int.toNat_zero, List.getElem?_cons_zero, List.getElem?_cons_succ, List.set_cons_zero, List.set_cons_succ, Option.bind_some, Bool.false_eq_true, if_true, if_false, ite_true, ite_false, reduceIte, decide_true, decide_false, Bool.not_true, Bool.not_false, List.map_cons, List.map_nil, List.any_cons, List.any_nil, Bool.or_false, Bool.or_true, Bool.true_or, Bool.false_or, Bool.and_true, Bool.true_and, Bool.false_and, Bool.and_false, s1, t1, s2, t2, tup_ls, s3, t3, c3, z]
end
end K07

namespace K07
open PySem PySem.Spec PyProof.Rows L2 DL LW
/-! ### an even pace -/
theorem even_dr {t2 p : Int} (t0 : 1 ≤ t2) (t1 : t2 ≤ 50) (p0 : 1 ≤ p) (p1 : p ≤ 40) : Dr 0 t2 [(0, p)] where
  len := by simp
  hd := ⟨p, [], rfl⟩
  in_ := fun q hq => by rw [List.mem_singleton.mp hq]; dsimp only; omega
  up := List.pairwise_singleton _ _
  g0 := by decide
  g5 := by decide
  t1 := t0
  t5 := t1
section
variable {t2 p : Int} (D : Dr 0 t2 [(0, p)]) (p0 : 1 ≤ p)
include D p0
theorem tb_even {s : Int} (h0 : 0 ≤ s) : tb 0 t2 [(0, p)] s = s / p := by
  have q0 : 0 ≤ s / p := Int.ediv_nonneg h0 (by omega)
  have m1 := Int.ediv_mul_add_emod s p
  have m2 := Int.emod_nonneg s (show p ≠ 0 by omega)
  have m3 := Int.emod_lt_of_pos s (show 0 < p by omega)
  refine tb_eq D h0 q0 ?_ ?_
  · rw [F_one q0, Int.mul_comm]; omega
  · rw [F_one (by omega), Int.mul_add, Int.mul_comm p (s / p)]; omega
theorem ft_even {s : Int} : ft 0 t2 [(0, p)] s = if s ≤ 0 then 0 else (s - 1) / p + 1 := by
  unfold ft
  by_cases c : s ≤ 0
  · rw [if_pos c, if_pos c]
  · rw [if_neg c, if_neg c, tb_even D p0 (by omega)]
theorem div_shift (s k : Int) : (s + p * k) / p = s / p + k := by
  rw [Int.mul_comm, Int.add_mul_ediv_right _ _ (by omega)]
theorem ft_shift {s k : Int} (hs : 0 ≤ s) (hk : 1 ≤ k) : ft 0 t2 [(0, p)] (s + p * k) = ft 0 t2 [(0, p)] s + k := by
  have pk : p * 1 ≤ p * k := Int.mul_le_mul_of_nonneg_left hk (by omega)
  rw [ft_even D p0, ft_even D p0, if_neg (by omega)]
  have e : s + p * k - 1 = s - 1 + p * k := by omega
  rw [e, div_shift D p0]
  by_cases c : s ≤ 0
  · rw [if_pos c]
    have : s - 1 = -1 := by omega
    rw [this]
    have : (-1 : Int) / p = -1 := by
      rw [Int.ediv_eq_iff_of_pos (by omega)]; omega
    omega
  · rw [if_neg c]; omega
theorem en_shift {s k : Int} (hs : 0 ≤ s) (hk : 1 ≤ k) : en 0 t2 [(0, p)] (s + p * k) = en 0 t2 [(0, p)] s + k := by
  have pk : p * 1 ≤ p * k := Int.mul_le_mul_of_nonneg_left hk (by omega)
  unfold en
  rw [tb_even D p0 (by omega), tb_even D p0 hs, div_shift D p0]; omega
end
def later (p k : Int) (h : Ho) : Ho := (h.1, h.2.1 + p * k, h.2.2 + p * k)
def sh (k : Int) (x : Int × Int) : Int × Int := (x.1 + k, x.2 + k)
theorem stp_shift (k : Int) (acc : List (Int × Int)) (b e : Int) : stp (acc.map (sh k)) (b + k) (e + k) = (stp acc b e).map (sh k) := by
  rcases List.eq_nil_or_concat acc with rfl | ⟨pre, l, rfl⟩
  · rw [List.map_nil, stp_nil, stp_nil]
    by_cases c : b < e
    · rw [if_pos c, if_pos (by omega)]; rfl
    · rw [if_neg c, if_neg (by omega)]; rfl
  · rw [List.concat_eq_append, List.map_append, List.map_singleton, stp_snoc, stp_snoc]
    by_cases c : b < e
    · rw [if_pos c, if_pos (by omega)]
      by_cases d : l.2 ≥ b
      · rw [if_pos d, if_pos (by unfold sh; dsimp only; omega), List.map_append, List.map_singleton]
        congr 2
        unfold sh
        dsimp only
        by_cases f : l.2 > e
        · rw [if_pos f, if_pos (by omega)]
        · rw [if_neg f, if_neg (by omega)]
      · rw [if_neg d, if_neg (by unfold sh; dsimp only; omega), List.map_append, List.map_append]; rfl
    · rw [if_neg c, if_neg (by omega), List.map_append]; rfl
section
variable {t2 p k : Int} (D : Dr 0 t2 [(0, p)]) (p0 : 1 ≤ p) (k0 : 1 ≤ k)
include D p0 k0
theorem stl_shift : ∀ (hs acc : List (Int × Int)), (∀ x ∈ hs, 0 ≤ x.1 ∧ 0 ≤ x.2) → stl 0 t2 [(0, p)] 1 (hs.map (sh (p * k))) (acc.map (sh k)) = (stl 0 t2 [(0, p)] 1 hs acc).map (sh k)
  | [], acc, _ => rfl
  | x :: hs, acc, hx => by
    obtain ⟨x0, x1⟩ := hx x List.mem_cons_self
    show stl 0 t2 [(0, p)] 1 (hs.map (sh (p * k))) (stp (acc.map (sh k)) (ft 0 t2 [(0, p)] (x.1 + p * k - 1 + 1)) (en 0 t2 [(0, p)] (x.2 + p * k))) = (stl 0 t2 [(0, p)] 1 hs (stp acc (ft 0 t2 [(0, p)] (x.1 - 1 + 1)) (en 0 t2 [(0, p)] x.2))).map (sh k)
    have e1 : x.1 + p * k - 1 + 1 = x.1 + p * k := by omega
    have e2 : x.1 - 1 + 1 = x.1 := by omega
    rw [e1, e2, ft_shift D p0 x0 k0, en_shift D p0 x1 k0, stp_shift, stl_shift hs _ fun y hy => hx y (List.mem_cons_of_mem _ hy)]
omit D p0 k0 in
theorem lane_later {r : List Ho} (lane : Int) : laneL (r.map (later p k)) lane = (laneL r lane).map (sh (p * k)) := by
  unfold laneL
  rw [List.filter_map, List.map_map, List.map_map]
  rfl
theorem stz_later {r : List Ho} (ok : RollOk r) (lane : Int) : stz 0 t2 [(0, p)] 1 (r.map (later p k)) lane = (stz 0 t2 [(0, p)] 1 r lane).map (sh k) := by
  unfold stz
  rw [lane_later]
  exact stl_shift D p0 k0 (laneL r lane) [] fun x hx => by have := lane_in ok hx; omega
omit k0 in
theorem single_ne {h : Ho} (h0 : 0 ≤ h.2.1) (h1 : h.2.1 ≤ h.2.2) : stz 0 t2 [(0, p)] p [h] h.1 ≠ [] := by
  have e : laneL [h] h.1 = [h.2] := by unfold laneL; simp
  unfold stz
  rw [e]
  show stp [] (ft 0 t2 [(0, p)] (h.2.1 - p + 1)) (en 0 t2 [(0, p)] h.2.2) ≠ []
  rw [stp_nil, if_pos, ]
  · simp
  · have q0 : 0 ≤ h.2.1 / p := Int.ediv_nonneg h0 (by omega)
    have m1 := Int.ediv_mul_add_emod h.2.1 p
    have m3 := Int.emod_lt_of_pos h.2.1 (show 0 < p by omega)
    have m2 := Int.emod_nonneg h.2.1 (show p ≠ 0 by omega)
    have a := (ft_le D (s := h.2.1 - p + 1) q0).mpr (by rw [F_one q0, Int.mul_comm]; omega)
    have b := (lt_en D (s := h.2.2) (by omega) q0).mpr (by rw [F_one q0, Int.mul_comm]; omega)
    omega
end
theorem later_ok {r : List Ho} {p k : Int} (ok : RollOk r) (p0 : 1 ≤ p) (k0 : 1 ≤ k) (pk : p * k ≤ 2000) (hr : ∀ h ∈ r, h.2.2 ≤ 4100) : RollOk (r.map (later p k)) := by
  have pp : p * 1 ≤ p * k := Int.mul_le_mul_of_nonneg_left k0 (by omega)
  exact ⟨by rw [List.length_map]; exact ok.len, fun x hx => by
    obtain ⟨h, hh, rfl⟩ := List.mem_map.mp hx
    have := ok.in_ h hh
    have := hr h hh
    unfold later; dsimp only; omega,
   List.pairwise_map.mpr (ok.up.imp fun {a b} z => by unfold gap later at *; dsimp only; omega)⟩
section
variable {g t w : Int} {ls : List (Int × Int)} {r lo : List Ho} {y : PyData} {t2 p k : Int} (D : Dr 0 t2 [(0, p)]) (p0 : 1 ≤ p) (p1 : p ≤ 40) (k0 : 1 ≤ k) (k1 : k ≤ 50) (ok : RollOk r) (ok2 : RollOk (r.map (later p k)))
include D p0 p1 k0 k1 ok ok2
theorem loop_single {lane : Int} {s : PyData} : ∀ hs : List Ho, (∀ h ∈ hs, h ∈ r) →
    loopS (tgN 10) lb_law_0 [10] (hs.map Pln.e) [none, some (.own, y), some (.pers, drvD g t ls), some (.pers, .int w), some (.pers, tpD r), some (.own, lsD lo), some (.pers, .int lane), none, none, none, none, none, none, none, none, some (.pers, .int p), some (.pers, .int k), some (.pers, tpD (r.map (later p k))), some (.pers, drvD 0 t2 [(0, p)]), some (.pers, s), none, none, none] = .nx [none, some (.own, y), some (.pers, drvD g t ls), some (.pers, .int w), some (.pers, tpD r), some (.own, lsD lo), some (.pers, .int lane), none, none, none, none, none, none, none, none, some (.pers, .int p), some (.pers, .int k), some (.pers, tpD (r.map (later p k))), some (.pers, drvD 0 t2 [(0, p)]), some (.pers, s), none, none, none]
  | [], _ => rfl
  | h :: hs, hh => by
    have hi := ok.in_ h (hh h List.mem_cons_self)
    have o1 : RollOk [h] := ⟨by simp, fun x hx => by rw [List.mem_singleton.mp hx]; exact hi, List.pairwise_singleton _ _⟩
    have eb : lb_law_0 [none, some (.own, y), some (.pers, drvD g t ls), some (.pers, .int w), some (.pers, tpD r), some (.own, lsD lo), some (.pers, .int lane), none, none, none, some (.pers, Pln.e h), none, none, none, none, some (.pers, .int p), some (.pers, .int k), some (.pers, tpD (r.map (later p k))), some (.pers, drvD 0 t2 [(0, p)]), some (.pers, s), none, none, none] = .nx [none, some (.own, y), some (.pers, drvD g t ls), some (.pers, .int w), some (.pers, tpD r), some (.own, lsD lo), some (.pers, .int lane), none, none, none, some (.pers, Pln.e h), none, none, none, none, some (.pers, .int p), some (.pers, .int k), some (.pers, tpD (r.map (later p k))), some (.pers, drvD 0 t2 [(0, p)]), some (.pers, s), none, none, none] := by
      unfold lb_law_0
      by_cases c : h.1 = lane
      · have s1 : f_stretches [drvD 0 t2 [(0, p)], .int p, .tuple [Pln.e h], .int lane] = _ := stretches_ok D (lane := lane) p0 p1 o1 (by omega) (by omega)
        have ne : ¬ stz 0 t2 [(0, p)] p [h] lane = [] := by rw [← c]; exact single_ne D p0 (by omega) (by omega)
        simp only [bd_ok, bd_ex, bd_bad, q_pure, q_optS, q_optN, sq_nx, sq_rt, sq_ex, sq_bad, q_seq, q_pass, of_ok, of_ex, of_bad, q_expr, q_if, q_ret, ret_val, ret_new, q_raise, q_var, sv_pers, sv_own, sv_bor, q_con, q_datV, q_datN, q_datS, sd_some, q_optRS, q_optRN, res_t, res_f, q_bin2, q_un1, q_persM, pr_val, pr_new, pr_slot, sp_own, q_mvM, mv_val, mv_new, mv_slot, sm_own, q_set, q_free, fr_none, fr_pers, fr_own, put_val, put_new, q_not, q_andB, q_orB, q_boolM, br_bool, q_andM, q_orM, q_notM, q_ifM, q_chn2, ch_bool, q_cons, q_nil, q_tup, q_lst, q_opd1, q_opd2, q_callM, q_callF, fr_ok, fr_ex, fr_bad, q_callB, ld_own, ld_bor, fb_ok, fb_ex, q_has, has_some, os_ok, ns_some, ms_own, ms_bor, q_st, mt_some, mu_own, mu_bor, q_mutV, q_ownT, ow_own, ow_bor, q_m1, q_m0, q_tgN, q_tg, q_tgR, to_some, tgT_tup, tgT_lst, tgC_cons, tgN_nil, q_for, q_map1, q_walk, so_list, so_tup, wo_list, wo_tup, e_add, e_sub, e_neg, e_lt, e_gt, e_le, e_ge, e_eq, e_ne, e_isN, e_isnN, e_isB, e_isnB, pk_some, e_ixL, e_ixT, e_lastL, e_lastT, e_part, e_intR, e_noPart, e_slice, e_slL, e_slT, q_par, q_par1, q_par2, po_val, po_new, nx_some, q_getM, q_getE, gate_some, go_int, dat_val, q_pop2, ow_dict, fin_nx, fin_rt, fin_ex, bor_t, bor_f, e_lenL, e_lenT, e_abs, e_min, e_max, e_int, e_intB, e_tupL, e_tupT, e_lstL, e_lstT, e_all, e_any, e_sum, e_isa, e_set0, e_set2, Int.reduceLE, Int.reduceLT, Int.reduceToNat, Int.reduceNeg, Int.le_refl, Int.toNat_zero, List.getElem?_cons_zero, List.getElem?_cons_succ, List.set_cons_zero, List.set_cons_succ, Option.bind_some, Bool.false_eq_true, if_true, if_false, ite_true, ite_false, reduceIte, decide_true, decide_false, Bool.not_true, Bool.not_false, List.map_cons, List.map_nil, List.any_cons, List.any_nil, Bool.or_false, Bool.or_true, Bool.true_or, Bool.false_or, Bool.and_true, Bool.true_and, Bool.false_and, Bool.and_false, ho_0, c, s1, eqD_ls0, ne]
      · simp only [bd_ok, bd_ex, bd_bad, q_pure, q_optS, q_optN, sq_nx, sq_rt, sq_ex, sq_bad, q_seq, q_pass, of_ok, of_ex, of_bad, q_expr, q_if, q_ret, ret_val, ret_new, q_raise, q_var, sv_pers, sv_own, sv_bor, q_con, q_datV, q_datN, q_datS, sd_some, q_optRS, q_optRN, res_t, res_f, q_bin2, q_un1, q_persM, pr_val, pr_new, pr_slot, sp_own, q_mvM, mv_val, mv_new, mv_slot, sm_own, q_set, q_free, fr_none, fr_pers, fr_own, put_val, put_new, q_not, q_andB, q_orB, q_boolM, br_bool, q_andM, q_orM, q_notM, q_ifM, q_chn2, ch_bool, q_cons, q_nil, q_tup, q_lst, q_opd1, q_opd2, q_callM, q_callF, fr_ok, fr_ex, fr_bad, q_callB, ld_own, ld_bor, fb_ok, fb_ex, q_has, has_some, os_ok, ns_some, ms_own, ms_bor, q_st, mt_some, mu_own, mu_bor, q_mutV, q_ownT, ow_own, ow_bor, q_m1, q_m0, q_tgN, q_tg, q_tgR, to_some, tgT_tup, tgT_lst, tgC_cons, tgN_nil, q_for, q_map1, q_walk, so_list, so_tup, wo_list, wo_tup, e_add, e_sub, e_neg, e_lt, e_gt, e_le, e_ge, e_eq, e_ne, e_isN, e_isnN, e_isB, e_isnB, pk_some, e_ixL, e_ixT, e_lastL, e_lastT, e_part, e_intR, e_noPart, e_slice, e_slL, e_slT, q_par, q_par1, q_par2, po_val, po_new, nx_some, q_getM, q_getE, gate_some, go_int, dat_val, q_pop2, ow_dict, fin_nx, fin_rt, fin_ex, bor_t, bor_f, e_lenL, e_lenT, e_abs, e_min, e_max, e_int, e_intB, e_tupL, e_tupT, e_lstL, e_lstT, e_all, e_any, e_sum, e_isa, e_set0, e_set2, Int.reduceLE, Int.reduceLT, Int.reduceToNat, Int.reduceNeg, Int.le_refl, Int.toNat_zero, List.getElem?_cons_zero, List.getElem?_cons_succ, List.set_cons_zero, List.set_cons_succ, Option.bind_some, Bool.false_eq_true, if_true, if_false, ite_true, ite_false, reduceIte, decide_true, decide_false, Bool.not_true, Bool.not_false, List.map_cons, List.map_nil, List.any_cons, List.any_nil, Bool.or_false, Bool.or_true, Bool.true_or, Bool.false_or, Bool.and_true, Bool.true_and, Bool.false_and, Bool.and_false, ho_0, c]
    rw [List.map_cons]
    unfold loopS
    rw [show tgN 10 (Pln.e h) [none, some (.own, y), some (.pers, drvD g t ls), some (.pers, .int w), some (.pers, tpD r), some (.own, lsD lo), some (.pers, .int lane), none, none, none, none, none, none, none, none, some (.pers, .int p), some (.pers, .int k), some (.pers, tpD (r.map (later p k))), some (.pers, drvD 0 t2 [(0, p)]), some (.pers, s), none, none, none] = some [none, some (.own, y), some (.pers, drvD g t ls), some (.pers, .int w), some (.pers, tpD r), some (.own, lsD lo), some (.pers, .int lane), none, none, none, some (.pers, Pln.e h), none, none, none, none, some (.pers, .int p), some (.pers, .int k), some (.pers, tpD (r.map (later p k))), some (.pers, drvD 0 t2 [(0, p)]), some (.pers, s), none, none, none] from rfl]
    dsimp only
    rw [eb]
    exact loop_single hs fun x hx => hh x (List.mem_cons_of_mem _ hx)
theorem even_turn {lane : Int} (l0 : 0 ≤ lane) (l1 : lane ≤ 19) :
    ∃ δ, lb_law_1 [none, some (.own, y), some (.pers, drvD g t ls), some (.pers, .int w), some (.pers, tpD r), some (.own, lsD lo), some (.pers, .int lane), none, none, none, none, none, none, none, none, some (.pers, .int p), some (.pers, .int k), some (.pers, tpD (r.map (later p k))), some (.pers, drvD 0 t2 [(0, p)]), none, none, none, none] = .nx δ ∧ fgt [6, 10, 19] δ = [none, some (.own, y), some (.pers, drvD g t ls), some (.pers, .int w), some (.pers, tpD r), some (.own, lsD lo), none, none, none, none, none, none, none, none, none, some (.pers, .int p), some (.pers, .int k), some (.pers, tpD (r.map (later p k))), some (.pers, drvD 0 t2 [(0, p)]), none, none, none, none] := by
  have s1 := stretches_ok D (lane := lane) (w := 1) (by decide) (by decide) ok l0 l1
  have s2 := stretches_ok D (lane := lane) (w := 1) (by decide) (by decide) ok2 l0 l1
  rw [stz_later D p0 k0 ok] at s2
  have hl := stz_len 0 t2 [(0, p)] 1 r lane
  have hr := ok.len
  generalize stz 0 t2 [(0, p)] 1 r lane = ss at s1 s2 hl
  have c1 : c_law_1 [none, some (.own, y), some (.pers, drvD g t ls), some (.pers, .int w), some (.pers, tpD r), some (.own, lsD lo), some (.pers, .int lane), none, none, none, none, none, none, none, none, some (.pers, .int p), some (.pers, .int k), some (.pers, tpD (r.map (later p k))), some (.pers, drvD 0 t2 [(0, p)]), some (.own, lsD ss), none, none, none] = .ok (.new (lsD (ss.map (sh k)))) [none, some (.own, y), some (.pers, drvD g t ls), some (.pers, .int w), some (.pers, tpD r), some (.own, lsD lo), some (.pers, .int lane), none, none, none, none, none, none, none, none, some (.pers, .int p), some (.pers, .int k), some (.pers, tpD (r.map (later p k))), some (.pers, drvD 0 t2 [(0, p)]), some (.pers, lsD ss), none, none, none] := by
    unfold lsD
    rw [List.map_map]
    refine lcm_enc Pln.e ss _ (by simp only [bd_ok, bd_ex, bd_bad, q_pure, q_optS, q_optN, sq_nx, sq_rt, sq_ex, sq_bad, q_seq, q_pass, of_ok, of_ex, of_bad, q_expr, q_if, q_ret, ret_val, ret_new, q_raise, q_var, sv_pers, sv_own, sv_bor, q_con, q_datV, q_datN, q_datS, sd_some, q_optRS, q_optRN, res_t, res_f, q_bin2, q_un1, q_persM, pr_val, pr_new, pr_slot, sp_own, q_mvM, mv_val, mv_new, mv_slot, sm_own, q_set, q_free, fr_none, fr_pers, fr_own, put_val, put_new, q_not, q_andB, q_orB, q_boolM, br_bool, q_andM, q_orM, q_notM, q_ifM, q_chn2, ch_bool, q_cons, q_nil, q_tup, q_lst, q_opd1, q_opd2, q_callM, q_callF, fr_ok, fr_ex, fr_bad, q_callB, ld_own, ld_bor, fb_ok, fb_ex, q_has, has_some, os_ok, ns_some, ms_own, ms_bor, q_st, mt_some, mu_own, mu_bor, q_mutV, q_ownT, ow_own, ow_bor, q_m1, q_m0, q_tgN, q_tg, q_tgR, to_some, tgT_tup, tgT_lst, tgC_cons, tgN_nil, q_for, q_map1, q_walk, so_list, so_tup, wo_list, wo_tup, e_add, e_sub, e_neg, e_lt, e_gt, e_le, e_ge, e_eq, e_ne, e_isN, e_isnN, e_isB, e_isnB, pk_some, e_ixL, e_ixT, e_lastL, e_lastT, e_part, e_intR, e_noPart, e_slice, e_slL, e_slT, q_par, q_par1, q_par2, po_val, po_new, nx_some, q_getM, q_getE, gate_some, go_int, dat_val, q_pop2, ow_dict, fin_nx, fin_rt, fin_ex, bor_t, bor_f, e_lenL, e_lenT, e_abs, e_min, e_max, e_int, e_intB, e_tupL, e_tupT, e_lstL, e_lstT, e_all, e_any, e_sum, e_isa, e_set0, e_set2, Int.reduceLE, Int.reduceLT, Int.reduceToNat, Int.reduceNeg, Int.le_refl, Int.toNat_zero, List.getElem?_cons_zero, List.getElem?_cons_succ, List.set_cons_zero, List.set_cons_succ, Option.bind_some, Bool.false_eq_true, if_true, if_false, ite_true, ite_false, reduceIte, decide_true, decide_false, Bool.not_true, Bool.not_false, List.map_cons, List.map_nil, List.any_cons, List.any_nil, Bool.or_false, Bool.or_true, Bool.true_or, Bool.false_or, Bool.and_true, Bool.true_and, Bool.false_and, Bool.and_false]) rfl (line20 (by omega)) fun x hx => ?_
    refine ⟨[none, some (.own, y), some (.pers, drvD g t ls), some (.pers, .int w), some (.pers, tpD r), some (.own, lsD lo), some (.pers, .int lane), none, none, none, none, none, none, none, none, some (.pers, .int p), some (.pers, .int k), some (.pers, tpD (r.map (later p k))), some (.pers, drvD 0 t2 [(0, p)]), some (.pers, lsD ss), some (.pers, .int x.1), some (.pers, .int x.2), none], [none, some (.own, y), some (.pers, drvD g t ls), some (.pers, .int w), some (.pers, tpD r), some (.own, lsD lo), some (.pers, .int lane), none, none, none, none, none, none, none, none, some (.pers, .int p), some (.pers, .int k), some (.pers, tpD (r.map (later p k))), some (.pers, drvD 0 t2 [(0, p)]), some (.pers, lsD ss), some (.pers, .int x.1), some (.pers, .int x.2), none], rfl, ?_, rfl⟩
    unfold ce_law_1
    simp only [bd_ok, bd_ex, bd_bad, q_pure, q_optS, q_optN, sq_nx, sq_rt, sq_ex, sq_bad, q_seq, q_pass, of_ok, of_ex, of_bad, q_expr, q_if, q_ret, ret_val, ret_new, q_raise, q_var, sv_pers, sv_own, sv_bor, q_con, q_datV, q_datN, q_datS, sd_some, q_optRS, q_optRN, res_t, res_f, q_bin2, q_un1, q_persM, pr_val, pr_new, pr_slot, sp_own, q_mvM, mv_val, mv_new, mv_slot, sm_own, q_set, q_free, fr_none, fr_pers, fr_own, put_val, put_new, q_not, q_andB, q_orB, q_boolM, br_bool, q_andM, q_orM, q_notM, q_ifM, q_chn2, ch_bool, q_cons, q_nil, q_tup, q_lst, q_opd1, q_opd2, q_callM, q_callF, fr_ok, fr_ex, fr_bad, q_callB, ld_own, ld_bor, fb_ok, fb_ex, q_has, has_some, os_ok, ns_some, ms_own, ms_bor, q_st, mt_some, mu_own, mu_bor, q_mutV, q_ownT, ow_own, ow_bor, q_m1, q_m0, q_tgN, q_tg, q_tgR, to_some, tgT_tup, tgT_lst, tgC_cons, tgN_nil, q_for, q_map1, q_walk, so_list, so_tup, wo_list, wo_tup, e_add, e_sub, e_neg, e_lt, e_gt, e_le, e_ge, e_eq, e_ne, e_isN, e_isnN, e_isB, e_isnB, pk_some, e_ixL, e_ixT, e_lastL, e_lastT, e_part, e_intR, e_noPart, e_slice, e_slL, e_slT, q_par, q_par1, q_par2, po_val, po_new, nx_some, q_getM, q_getE, gate_some, go_int, dat_val, q_pop2, ow_dict, fin_nx, fin_rt, fin_ex, bor_t, bor_f, e_lenL, e_lenT, e_abs, e_min, e_max, e_int, e_intB, e_tupL, e_tupT, e_lstL, e_lstT, e_all, e_any, e_sum, e_isa, e_set0, e_set2, Int.reduceLE, Int.reduceLT, Int.reduceToNat, Int.reduceNeg, Int.le_refl, Int.toNat_zero, List.getElem?_cons_zero, List.getElem?_cons_succ, List.set_cons_zero, List.set_cons_succ, Option.bind_some, Bool.false_eq_true, if_true, if_false, ite_true, ite_false, reduceIte, decide_true, decide_false, Bool.not_true, Bool.not_false, List.map_cons, List.map_nil, List.any_cons, List.any_nil, Bool.or_false, Bool.or_true, Bool.true_or, Bool.false_or, Bool.and_true, Bool.true_and, Bool.false_and, Bool.and_false]
    rfl
  have lp := loop_single D p0 p1 k0 k1 ok ok2 (g := g) (t := t) (w := w) (ls := ls) (lo := lo) (y := y) (lane := lane) (s := lsD ss) r fun h hh => hh
  refine ⟨[none, some (.own, y), some (.pers, drvD g t ls), some (.pers, .int w), some (.pers, tpD r), some (.own, lsD lo), some (.pers, .int lane), none, none, none, none, none, none, none, none, some (.pers, .int p), some (.pers, .int k), some (.pers, tpD (r.map (later p k))), some (.pers, drvD 0 t2 [(0, p)]), some (.pers, lsD ss), none, none, none], ?_, by simp only [bd_ok, bd_ex, bd_bad, q_pure, q_optS, q_optN, sq_nx, sq_rt, sq_ex, sq_bad, q_seq, q_pass, of_ok, of_ex, of_bad, q_expr, q_if, q_ret, ret_val, ret_new, q_raise, q_var, sv_pers, sv_own, sv_bor, q_con, q_datV, q_datN, q_datS, sd_some, q_optRS, q_optRN, res_t, res_f, q_bin2, q_un1, q_persM, pr_val, pr_new, pr_slot, sp_own, q_mvM, mv_val, mv_new, mv_slot, sm_own, q_set, q_free, fr_none, fr_pers, fr_own, put_val, put_new, q_not, q_andB, q_orB, q_boolM, br_bool, q_andM, q_orM, q_notM, q_ifM, q_chn2, ch_bool, q_cons, q_nil, q_tup, q_lst, q_opd1, q_opd2, q_callM, q_callF, fr_ok, fr_ex, fr_bad, q_callB, ld_own, ld_bor, fb_ok, fb_ex, q_has, has_some, os_ok, ns_some, ms_own, ms_bor, q_st, mt_some, mu_own, mu_bor, q_mutV, q_ownT, ow_own, ow_bor, q_m1, q_m0, q_tgN, q_tg, q_tgR, to_some, tgT_tup, tgT_lst, tgC_cons, tgN_nil, q_for, q_map1, q_walk, so_list, so_tup, wo_list, wo_tup, e_add, e_sub, e_neg, e_lt, e_gt, e_le, e_ge, e_eq, e_ne, e_isN, e_isnN, e_isB, e_isnB, pk_some, e_ixL, e_ixT, e_lastL, e_lastT, e_part, e_intR, e_noPart, e_slice, e_slL, e_slT, q_par, q_par1, q_par2, po_val, po_new, nx_some, q_getM, q_getE, gate_some, go_int, dat_val, q_pop2, ow_dict, fin_nx, fin_rt, fin_ex, bor_t, bor_f, e_lenL, e_lenT, e_abs, e_min, e_max, e_int, e_intB, e_tupL, e_tupT, e_lstL, e_lstT, e_all, e_any, e_sum, e_isa, e_set0, e_set2, Int.reduceLE, Int.reduceLT, Int.reduceToNat, Int.reduceNeg, Int.le_refl, Int.toNat_zero, List.getElem?_cons_zero, List.getElem?_cons_succ, List.set_cons_zero, List.set_cons_succ, Option.bind_some, Bool.false_eq_true, if_true, if_false, ite_true, ite_false, reduceIte, decide_true, decide_false, Bool.not_true, Bool.not_false, List.map_cons, List.map_nil, List.any_cons, List.any_nil, Bool.or_false, Bool.or_true, Bool.true_or, Bool.false_or, Bool.and_true, Bool.true_and, Bool.false_and, Bool.and_false, fgt]⟩
  unfold lb_law_1 l_law_0
  simp only [bd_ok, bd_ex, bd_bad, q_pure, q_optS, q_optN, sq_nx, sq_rt, sq_ex, sq_bad, q_seq, q_pass, of_ok, of_ex, of_bad, q_expr, q_if, q_ret, ret_val, ret_new, q_raise, q_var, sv_pers, sv_own, sv_bor, q_con, q_datV, q_datN, q_datS, sd_some, q_optRS, q_optRN, res_t, res_f, q_bin2, q_un1, q_persM, pr_val, pr_new, pr_slot, sp_own, q_mvM, mv_val, mv_new, mv_slot, sm_own, q_set, q_free, fr_none, fr_pers, fr_own, put_val, put_new, q_not, q_andB, q_orB, q_boolM, br_bool, q_andM, q_orM, q_notM, q_ifM, q_chn2, ch_bool, q_cons, q_nil, q_tup, q_lst, q_opd1, q_opd2, q_callM, q_callF, fr_ok, fr_ex, fr_bad, q_callB, ld_own, ld_bor, fb_ok, fb_ex, q_has, has_some, os_ok, ns_some, ms_own, ms_bor, q_st, mt_some, mu_own, mu_bor, q_mutV, q_ownT, ow_own, ow_bor, q_m1, q_m0, q_tgN, q_tg, q_tgR, to_some, tgT_tup, tgT_lst, tgC_cons, tgN_nil, q_for, q_map1, q_walk, so_list, so_tup, wo_list, wo_tup, e_add, e_sub, e_neg, e_lt, e_gt, e_le, e_ge, e_eq, e_ne, e_isN, e_isnN, e_isB, e_isnB, pk_some, e_ixL, e_ixT, e_lastL, e_lastT, e_part, e_intR, e_noPart, e_slice, e_slL, e_slT, q_par, q_par1, q_par2, po_val, po_new, nx_some, q_getM, q_getE, gate_some, go_int, dat_val, q_pop2, ow_dict, fin_nx, fin_rt, fin_ex, bor_t, bor_f, e_lenL, e_lenT, e_abs, e_min, e_max, e_int, e_intB, e_tupL, e_tupT, e_lstL, e_lstT, e_all, e_any, e_sum, e_isa, e_set0, e_set2, Int.reduceLE, Int.reduceLT, Int.reduceToNat, Int.reduceNeg, Int.le_refl, Int.toNat_zero, List.getElem?_cons_zero, List.getElem?_cons_succ, List.set_cons_zero, List.set_cons_succ, Option.bind_some, Bool.false_eq_true, if_true, if_false, ite_true, ite_false, reduceIte, decide_true, decide_false, Bool.not_true, Bool.not_false, List.map_cons, List.map_nil, List.any_cons, List.any_nil, Bool.or_false, Bool.or_true, Bool.true_or, Bool.false_or, Bool.and_true, Bool.true_and, Bool.false_and, Bool.and_false, s1, s2, c1, neD_ls, show walkO (tpD r) = some (r.map Pln.e) from rfl, lp]
end
/-! ### keys moved -/
def up3 (n : No) : No := (n.1, n.2.1 + 3, n.2.2.1, n.2.2.2)
theorem nts_up (ped acc : List (Int × Int)) (k : Int) (ss : List (Int × Int)) : nts ped acc (k + 3) ss = (nts ped acc k ss).map up3 := by
  unfold nts; rw [List.map_map]; rfl
theorem nts_nil (ped acc : List (Int × Int)) (k : Int) : nts ped acc k [] = [] := rfl
theorem lane_nil {r : List Ho} (h25 : ∀ h ∈ r, h.1 = 2 ∨ h.1 = 5) {k : Int} (h2 : k ≠ 2) (h5 : k ≠ 5) : laneL r k = [] := by
  unfold laneL
  rw [List.filter_eq_nil_iff.mpr fun h hh => by have := h25 h hh; simp; omega]; rfl
theorem lane_mv (r : List Ho) (k : Int) : laneL (r.map mv) (k + 3) = laneL r k := by
  unfold laneL
  rw [List.filter_map, List.map_map]
  congr 1
  refine List.filter_congr fun h _ => ?_
  show decide (h.1 + 3 = k + 3) = decide (h.1 = k)
  rw [decide_eq_decide]; omega
theorem lane_mv0 {r : List Ho} (h25 : ∀ h ∈ r, h.1 = 2 ∨ h.1 = 5) {k : Int} (h2 : k ≠ 5) (h5 : k ≠ 8) : laneL (r.map mv) k = [] := by
  have := lane_mv r (k - 3)
  rw [show k - 3 + 3 = k by omega] at this
  rw [this]
  exact lane_nil h25 (by omega) (by omega)
theorem plN_mv {g t : Int} {ls : List (Int × Int)} {w : Int} {r : List Ho} (h25 : ∀ h ∈ r, h.1 = 2 ∨ h.1 = 5) : plN g t ls w (r.map mv) = (plN g t ls w r).map up3 := by
  have z : ∀ k, k ≠ 2 → k ≠ 5 → stz g t ls w r k = [] := fun k a b => by unfold stz; rw [lane_nil h25 a b]; rfl
  have z' : ∀ k, k ≠ 5 → k ≠ 8 → stz g t ls w (r.map mv) k = [] := fun k a b => by unfold stz; rw [lane_mv0 h25 a b]; rfl
  have m : ∀ k, stz g t ls w (r.map mv) (k + 3) = stz g t ls w r k := fun k => by unfold stz; rw [lane_mv]
  have m2 := m 2
  have m5 := m 5
  have hk : keysP = [2, 3, 4, 5, 6, 7, 8, 9, 10, 11, 12, 13, 14, 15, 16, 17, 18, 19] := by decide
  unfold plN
  rw [hk]
  simp only [List.flatMap_cons, List.flatMap_nil, z 0 (by decide) (by decide), z 1 (by decide) (by decide), z' 0 (by decide) (by decide), z' 1 (by decide) (by decide)]
  have n1 : ∀ k, k ≠ 2 → k ≠ 5 → nts [] [] k (stz g t ls w r k) = [] := fun k a b => by rw [z k a b]; rfl
  have n2 : ∀ k, k ≠ 5 → k ≠ 8 → nts [] [] k (stz g t ls w (r.map mv) k) = [] := fun k a b => by rw [z' k a b]; rfl
  have n5 : nts [] [] 5 (stz g t ls w (r.map mv) 5) = (nts [] [] 2 (stz g t ls w r 2)).map up3 := by rw [← nts_up, ← m2]; rfl
  have n8 : nts [] [] 8 (stz g t ls w (r.map mv) 8) = (nts [] [] 5 (stz g t ls w r 5)).map up3 := by rw [← nts_up, ← m5]; rfl
  rw [n5, n8]
  rw [n1 3 (by decide) (by decide), n1 4 (by decide) (by decide), n1 6 (by decide) (by decide), n1 7 (by decide) (by decide), n1 8 (by decide) (by decide), n1 9 (by decide) (by decide), n1 10 (by decide) (by decide), n1 11 (by decide) (by decide), n1 12 (by decide) (by decide), n1 13 (by decide) (by decide), n1 14 (by decide) (by decide), n1 15 (by decide) (by decide), n1 16 (by decide) (by decide), n1 17 (by decide) (by decide), n1 18 (by decide) (by decide), n1 19 (by decide) (by decide)]
  rw [n2 2 (by decide) (by decide), n2 3 (by decide) (by decide), n2 4 (by decide) (by decide), n2 6 (by decide) (by decide), n2 7 (by decide) (by decide), n2 9 (by decide) (by decide), n2 10 (by decide) (by decide), n2 11 (by decide) (by decide), n2 12 (by decide) (by decide), n2 13 (by decide) (by decide), n2 14 (by decide) (by decide), n2 15 (by decide) (by decide), n2 16 (by decide) (by decide), n2 17 (by decide) (by decide), n2 18 (by decide) (by decide), n2 19 (by decide) (by decide)]
  simp
end K07

namespace K07
open PySem PySem.Spec PyProof.Rows L2 DL LW
section
variable {g t w : Int} {ls : List (Int × Int)} {r lo : List Ho} {y : PyData}
theorem loop_lanes (h : Dr g t ls) (w0 : 1 ≤ w) (w1 : w ≤ 39) (ok : RollOk r) (ok2 : RollOk (r.map (lg r))) : ∀ lanes : List Int, (∀ l ∈ lanes, 0 ≤ l ∧ l ≤ 19) →
    loopS (tgN 6) lb_law_2 [6, 11, 12, 13] (lanes.map PyData.int) [none, some (.own, y), some (.pers, drvD g t ls), some (.pers, .int w), some (.pers, tpD r), some (.own, lsD (r.map (lg r))), none, none, none, none, none, none, none, none, none, none, none, none, none, none, none, none, none] = .nx [none, some (.own, y), some (.pers, drvD g t ls), some (.pers, .int w), some (.pers, tpD r), some (.own, lsD (r.map (lg r))), none, none, none, none, none, none, none, none, none, none, none, none, none, none, none, none, none]
  | [], _ => rfl
  | l :: lanes, hl => by
    obtain ⟨l0, l1⟩ := hl l List.mem_cons_self
    obtain ⟨δ, e1, e2⟩ := lane_turn h (y := y) w0 w1 ok ok2 l0 l1
    rw [List.map_cons]
    unfold loopS
    rw [show tgN 6 (PyData.int l) [none, some (.own, y), some (.pers, drvD g t ls), some (.pers, .int w), some (.pers, tpD r), some (.own, lsD (r.map (lg r))), none, none, none, none, none, none, none, none, none, none, none, none, none, none, none, none, none] = some [none, some (.own, y), some (.pers, drvD g t ls), some (.pers, .int w), some (.pers, tpD r), some (.own, lsD (r.map (lg r))), some (.pers, .int l), none, none, none, none, none, none, none, none, none, none, none, none, none, none, none, none] from rfl]
    dsimp only
    rw [e1]
    dsimp only
    rw [e2]
    exact loop_lanes h w0 w1 ok ok2 lanes fun x hx => hl x (List.mem_cons_of_mem _ hx)
variable {t2 p k : Int}
theorem loop_even (D : Dr 0 t2 [(0, p)]) (p0 : 1 ≤ p) (p1 : p ≤ 40) (k0 : 1 ≤ k) (k1 : k ≤ 50) (ok : RollOk r) (ok2 : RollOk (r.map (later p k))) : ∀ lanes : List Int, (∀ l ∈ lanes, 0 ≤ l ∧ l ≤ 19) →
    loopS (tgN 6) lb_law_1 [6, 10, 19] (lanes.map PyData.int) [none, some (.own, y), some (.pers, drvD g t ls), some (.pers, .int w), some (.pers, tpD r), some (.own, lsD lo), none, none, none, none, none, none, none, none, none, some (.pers, .int p), some (.pers, .int k), some (.pers, tpD (r.map (later p k))), some (.pers, drvD 0 t2 [(0, p)]), none, none, none, none] = .nx [none, some (.own, y), some (.pers, drvD g t ls), some (.pers, .int w), some (.pers, tpD r), some (.own, lsD lo), none, none, none, none, none, none, none, none, none, some (.pers, .int p), some (.pers, .int k), some (.pers, tpD (r.map (later p k))), some (.pers, drvD 0 t2 [(0, p)]), none, none, none, none]
  | [], _ => rfl
  | l :: lanes, hl => by
    obtain ⟨l0, l1⟩ := hl l List.mem_cons_self
    obtain ⟨δ, e1, e2⟩ := even_turn (g := g) (t := t) (w := w) (ls := ls) (lo := lo) (y := y) D p0 p1 k0 k1 ok ok2 l0 l1
    rw [List.map_cons]
    unfold loopS
    rw [show tgN 6 (PyData.int l) [none, some (.own, y), some (.pers, drvD g t ls), some (.pers, .int w), some (.pers, tpD r), some (.own, lsD lo), none, none, none, none, none, none, none, none, none, some (.pers, .int p), some (.pers, .int k), some (.pers, tpD (r.map (later p k))), some (.pers, drvD 0 t2 [(0, p)]), none, none, none, none] = some [none, some (.own, y), some (.pers, drvD g t ls), some (.pers, .int w), some (.pers, tpD r), some (.own, lsD lo), some (.pers, .int l), none, none, none, none, none, none, none, none, some (.pers, .int p), some (.pers, .int k), some (.pers, tpD (r.map (later p k))), some (.pers, drvD 0 t2 [(0, p)]), none, none, none, none] from rfl]
    dsimp only
    rw [e1]
    dsimp only
    rw [e2]
    exact loop_even D p0 p1 k0 k1 ok ok2 lanes fun x hx => hl x (List.mem_cons_of_mem _ hx)
theorem comp_later (p0 : 1 ≤ p) (p1 : p ≤ 40) (k0 : 1 ≤ k) (k1 : k ≤ 50) (hr : r.length ≤ 200) :
    c_law_2 [none, some (.own, y), some (.pers, drvD g t ls), some (.pers, .int w), some (.pers, tpD r), some (.own, lsD lo), none, none, none, none, none, none, none, none, none, some (.pers, .int p), some (.pers, .int k), none, none, none, none, none, none] = .ok (.new (lsD (r.map (later p k)))) [none, some (.own, y), some (.pers, drvD g t ls), some (.pers, .int w), some (.pers, tpD r), some (.own, lsD lo), none, none, none, none, none, none, none, none, none, some (.pers, .int p), some (.pers, .int k), none, none, none, none, none, none] := by
  unfold lsD
  rw [List.map_map]
  have m1 := e_mul1 (i := p) (j := k) (sm_lt (by omega) (by omega)) (sm_lt (by omega) (by omega))
  refine lcm_enc Pln.e r _ (by simp only [bd_ok, bd_ex, bd_bad, q_pure, q_optS, q_optN, sq_nx, sq_rt, sq_ex, sq_bad, q_seq, q_pass, of_ok, of_ex, of_bad, q_expr, q_if, q_ret, ret_val, ret_new, q_raise, q_var, sv_pers, sv_own, sv_bor, q_con, q_datV, q_datN, q_datS, sd_some, q_optRS, q_optRN, res_t, res_f, q_bin2, q_un1, q_persM, pr_val, pr_new, pr_slot, sp_own, q_mvM, mv_val, mv_new, mv_slot, sm_own, q_set, q_free, fr_none, fr_pers, fr_own, put_val, put_new, q_not, q_andB, q_orB, q_boolM, br_bool, q_andM, q_orM, q_notM, q_ifM, q_chn2, ch_bool, q_cons, q_nil, q_tup, q_lst, q_opd1, q_opd2, q_callM, q_callF, fr_ok, fr_ex, fr_bad, q_callB, ld_own, ld_bor, fb_ok, fb_ex, q_has, has_some, os_ok, ns_some, ms_own, ms_bor, q_st, mt_some, mu_own, mu_bor, q_mutV, q_ownT, ow_own, ow_bor, q_m1, q_m0, q_tgN, q_tg, q_tgR, to_some, tgT_tup, tgT_lst, tgC_cons, tgN_nil, q_for, q_map1, q_walk, so_list, so_tup, wo_list, wo_tup, e_add, e_sub, e_neg, e_lt, e_gt, e_le, e_ge, e_eq, e_ne, e_isN, e_isnN, e_isB, e_isnB, pk_some, e_ixL, e_ixT, e_lastL, e_lastT, e_part, e_intR, e_noPart, e_slice, e_slL, e_slT, q_par, q_par1, q_par2, po_val, po_new, nx_some, q_getM, q_getE, gate_some, go_int, dat_val, q_pop2, ow_dict, fin_nx, fin_rt, fin_ex, bor_t, bor_f, e_lenL, e_lenT, e_abs, e_min, e_max, e_int, e_intB, e_tupL, e_tupT, e_lstL, e_lstT, e_all, e_any, e_sum, e_isa, e_set0, e_set2, Int.reduceLE, Int.reduceLT, Int.reduceToNat, Int.reduceNeg, Int.le_refl, Int.toNat_zero, List.getElem?_cons_zero, List.getElem?_cons_succ, List.set_cons_zero, List.set_cons_succ, Option.bind_some, Bool.false_eq_true, if_true, if_false, ite_true, ite_false, reduceIte, decide_true, decide_false, Bool.not_true, Bool.not_false, List.map_cons, List.map_nil, List.any_cons, List.any_nil, Bool.or_false, Bool.or_true, Bool.true_or, Bool.false_or, Bool.and_true, Bool.true_and, Bool.false_and, Bool.and_false, show walkO (tpD r) = some (r.map Pln.e) from rfl]) rfl (line20 (by omega)) fun x hx => ?_
  refine ⟨[none, some (.own, y), some (.pers, drvD g t ls), some (.pers, .int w), some (.pers, tpD r), some (.own, lsD lo), some (.pers, .int x.1), some (.pers, .int x.2.1), some (.pers, .int x.2.2), none, none, none, none, none, none, some (.pers, .int p), some (.pers, .int k), none, none, none, none, none, none], [none, some (.own, y), some (.pers, drvD g t ls), some (.pers, .int w), some (.pers, tpD r), some (.own, lsD lo), some (.pers, .int x.1), some (.pers, .int x.2.1), some (.pers, .int x.2.2), none, none, none, none, none, none, some (.pers, .int p), some (.pers, .int k), none, none, none, none, none, none], rfl, ?_, rfl⟩
  unfold ce_law_2
  simp only [bd_ok, bd_ex, bd_bad, q_pure, q_optS, q_optN, sq_nx, sq_rt, sq_ex, sq_bad, q_seq, q_pass, of_ok, of_ex, of_bad, q_expr, q_if, q_ret, ret_val, ret_new, q_raise, q_var, sv_pers, sv_own, sv_bor, q_con, q_datV, q_datN, q_datS, sd_some, q_optRS, q_optRN, res_t, res_f, q_bin2, q_un1, q_persM, pr_val, pr_new, pr_slot, sp_own, q_mvM, mv_val, mv_new, mv_slot, sm_own, q_set, q_free, fr_none, fr_pers, fr_own, put_val, put_new, q_not, q_andB, q_orB, q_boolM, br_bool, q_andM, q_orM, q_notM, q_ifM, q_chn2, ch_bool, q_cons, q_nil, q_tup, q_lst, q_opd1, q_opd2, q_callM, q_callF, fr_ok, fr_ex, fr_bad, q_callB, ld_own, ld_bor, fb_ok, fb_ex, q_has, has_some, os_ok, ns_some, ms_own, ms_bor, q_st, mt_some, mu_own, mu_bor, q_mutV, q_ownT, ow_own, ow_bor, q_m1, q_m0, q_tgN, q_tg, q_tgR, to_some, tgT_tup, tgT_lst, tgC_cons, tgN_nil, q_for, q_map1, q_walk, so_list, so_tup, wo_list, wo_tup, e_add, e_sub, e_neg, e_lt, e_gt, e_le, e_ge, e_eq, e_ne, e_isN, e_isnN, e_isB, e_isnB, pk_some, e_ixL, e_ixT, e_lastL, e_lastT, e_part, e_intR, e_noPart, e_slice, e_slL, e_slT, q_par, q_par1, q_par2, po_val, po_new, nx_some, q_getM, q_getE, gate_some, go_int, dat_val, q_pop2, ow_dict, fin_nx, fin_rt, fin_ex, bor_t, bor_f, e_lenL, e_lenT, e_abs, e_min, e_max, e_int, e_intB, e_tupL, e_tupT, e_lstL, e_lstT, e_all, e_any, e_sum, e_isa, e_set0, e_set2, Int.reduceLE, Int.reduceLT, Int.reduceToNat, Int.reduceNeg, Int.le_refl, Int.toNat_zero, List.getElem?_cons_zero, List.getElem?_cons_succ, List.set_cons_zero, List.set_cons_succ, Option.bind_some, Bool.false_eq_true, if_true, if_false, ite_true, ite_false, reduceIte, decide_true, decide_false, Bool.not_true, Bool.not_false, List.map_cons, List.map_nil, List.any_cons, List.any_nil, Bool.or_false, Bool.or_true, Bool.true_or, Bool.false_or, Bool.and_true, Bool.true_and, Bool.false_and, Bool.and_false, m1]
  rfl
theorem comp_up (h : Dr g t ls) (w0 : 1 ≤ w) (w1 : w ≤ 40) (ok : RollOk r) (h25 : ∀ h ∈ r, h.1 = 2 ∨ h.1 = 5) :
    c_law_0 [none, some (.own, y), some (.pers, drvD g t ls), some (.pers, .int w), some (.pers, tpD r), some (.own, lsD lo), none, none, none, none, none, none, none, none, none, some (.pers, .int p), some (.pers, .int k), some (.pers, tpD (r.map (later p k))), some (.pers, drvD 0 t2 [(0, p)]), none, none, none, none] = .ok (.new (lsD ((srt (plN g t ls w r)).map up3))) [none, some (.own, y), some (.pers, drvD g t ls), some (.pers, .int w), some (.pers, tpD r), some (.own, lsD lo), none, none, none, none, none, none, none, none, none, some (.pers, .int p), some (.pers, .int k), some (.pers, tpD (r.map (later p k))), some (.pers, drvD 0 t2 [(0, p)]), none, none, none, none] := by
  have e := played_ok h w0 w1 ok
  have hl := plN_len g t ls w r
  have hr := ok.len
  unfold lsD
  rw [List.map_map]
  refine lcm_enc Pln.e (srt (plN g t ls w r)) _ (by simp only [bd_ok, bd_ex, bd_bad, q_pure, q_optS, q_optN, sq_nx, sq_rt, sq_ex, sq_bad, q_seq, q_pass, of_ok, of_ex, of_bad, q_expr, q_if, q_ret, ret_val, ret_new, q_raise, q_var, sv_pers, sv_own, sv_bor, q_con, q_datV, q_datN, q_datS, sd_some, q_optRS, q_optRN, res_t, res_f, q_bin2, q_un1, q_persM, pr_val, pr_new, pr_slot, sp_own, q_mvM, mv_val, mv_new, mv_slot, sm_own, q_set, q_free, fr_none, fr_pers, fr_own, put_val, put_new, q_not, q_andB, q_orB, q_boolM, br_bool, q_andM, q_orM, q_notM, q_ifM, q_chn2, ch_bool, q_cons, q_nil, q_tup, q_lst, q_opd1, q_opd2, q_callM, q_callF, fr_ok, fr_ex, fr_bad, q_callB, ld_own, ld_bor, fb_ok, fb_ex, q_has, has_some, os_ok, ns_some, ms_own, ms_bor, q_st, mt_some, mu_own, mu_bor, q_mutV, q_ownT, ow_own, ow_bor, q_m1, q_m0, q_tgN, q_tg, q_tgR, to_some, tgT_tup, tgT_lst, tgC_cons, tgN_nil, q_for, q_map1, q_walk, so_list, so_tup, wo_list, wo_tup, e_add, e_sub, e_neg, e_lt, e_gt, e_le, e_ge, e_eq, e_ne, e_isN, e_isnN, e_isB, e_isnB, pk_some, e_ixL, e_ixT, e_lastL, e_lastT, e_part, e_intR, e_noPart, e_slice, e_slL, e_slT, q_par, q_par1, q_par2, po_val, po_new, nx_some, q_getM, q_getE, gate_some, go_int, dat_val, q_pop2, ow_dict, fin_nx, fin_rt, fin_ex, bor_t, bor_f, e_lenL, e_lenT, e_abs, e_min, e_max, e_int, e_intB, e_tupL, e_tupT, e_lstL, e_lstT, e_all, e_any, e_sum, e_isa, e_set0, e_set2, Int.reduceLE, Int.reduceLT, Int.reduceToNat, Int.reduceNeg, Int.le_refl, Int.toNat_zero, List.getElem?_cons_zero, List.getElem?_cons_succ, List.set_cons_zero, List.set_cons_succ, Option.bind_some, Bool.false_eq_true, if_true, if_false, ite_true, ite_false, reduceIte, decide_true, decide_false, Bool.not_true, Bool.not_false, List.map_cons, List.map_nil, List.any_cons, List.any_nil, Bool.or_false, Bool.or_true, Bool.true_or, Bool.false_or, Bool.and_true, Bool.true_and, Bool.false_and, Bool.and_false, e, show walkO (lsD (srt (plN g t ls w r))) = some ((srt (plN g t ls w r)).map Pln.e) from rfl]) rfl (Nat.le_trans (m := 10000) (by rw [srt_len]; omega) (by decide)) fun x hx => ?_
  refine ⟨[none, some (.own, y), some (.pers, drvD g t ls), some (.pers, .int w), some (.pers, tpD r), some (.own, lsD lo), none, none, none, none, some (.pers, Pln.e x), none, none, none, none, some (.pers, .int p), some (.pers, .int k), some (.pers, tpD (r.map (later p k))), some (.pers, drvD 0 t2 [(0, p)]), none, none, none, none], [none, some (.own, y), some (.pers, drvD g t ls), some (.pers, .int w), some (.pers, tpD r), some (.own, lsD lo), none, none, none, none, some (.pers, Pln.e x), none, none, none, none, some (.pers, .int p), some (.pers, .int k), some (.pers, tpD (r.map (later p k))), some (.pers, drvD 0 t2 [(0, p)]), none, none, none, none], rfl, ?_, rfl⟩
  have x0 : ixD (Pln.e x) (.int 0) = some (false, .int x.1) := rfl
  have x1 : ixD (Pln.e x) (.int 1) = some (false, .int x.2.1) := rfl
  have xs : sliceD (Pln.e x) (some 2) none = some (false, .tuple [.int x.2.2.1, .bool x.2.2.2]) := by
    show some (false, PyData.tuple (cutD _ (some 2) none)) = _
    rfl
  have ad : addD (.tuple [.int x.1, .int (x.2.1 + 3)]) (.tuple [.int x.2.2.1, .bool x.2.2.2]) = some (false, Pln.e (up3 x)) := e_addT (line20 (n := 2 + 2) (by decide))
  unfold ce_law_0
  simp only [bd_ok, bd_ex, bd_bad, q_pure, q_optS, q_optN, sq_nx, sq_rt, sq_ex, sq_bad, q_seq, q_pass, of_ok, of_ex, of_bad, q_expr, q_if, q_ret, ret_val, ret_new, q_raise, q_var, sv_pers, sv_own, sv_bor, q_con, q_datV, q_datN, q_datS, sd_some, q_optRS, q_optRN, res_t, res_f, q_bin2, q_un1, q_persM, pr_val, pr_new, pr_slot, sp_own, q_mvM, mv_val, mv_new, mv_slot, sm_own, q_set, q_free, fr_none, fr_pers, fr_own, put_val, put_new, q_not, q_andB, q_orB, q_boolM, br_bool, q_andM, q_orM, q_notM, q_ifM, q_chn2, ch_bool, q_cons, q_nil, q_tup, q_lst, q_opd1, q_opd2, q_callM, q_callF, fr_ok, fr_ex, fr_bad, q_callB, ld_own, ld_bor, fb_ok, fb_ex, q_has, has_some, os_ok, ns_some, ms_own, ms_bor, q_st, mt_some, mu_own, mu_bor, q_mutV, q_ownT, ow_own, ow_bor, q_m1, q_m0, q_tgN, q_tg, q_tgR, to_some, tgT_tup, tgT_lst, tgC_cons, tgN_nil, q_for, q_map1, q_walk, so_list, so_tup, wo_list, wo_tup, e_add, e_sub, e_neg, e_lt, e_gt, e_le, e_ge, e_eq, e_ne, e_isN, e_isnN, e_isB, e_isnB, pk_some, e_ixL, e_ixT, e_lastL, e_lastT, e_part, e_intR, e_noPart, e_slice, e_slL, e_slT, q_par, q_par1, q_par2, po_val, po_new, nx_some, q_getM, q_getE, gate_some, go_int, dat_val, q_pop2, ow_dict, fin_nx, fin_rt, fin_ex, bor_t, bor_f, e_lenL, e_lenT, e_abs, e_min, e_max, e_int, e_intB, e_tupL, e_tupT, e_lstL, e_lstT, e_all, e_any, e_sum, e_isa, e_set0, e_set2, Int.reduceLE, Int.reduceLT, Int.reduceToNat, Int.reduceNeg, Int.le_refl, Int.toNat_zero, List.getElem?_cons_zero, List.getElem?_cons_succ, List.set_cons_zero, List.set_cons_succ, Option.bind_some, Bool.false_eq_true, if_true, if_false, ite_true, ite_false, reduceIte, decide_true, decide_false, Bool.not_true, Bool.not_false, List.map_cons, List.map_nil, List.any_cons, List.any_nil, Bool.or_false, Bool.or_true, Bool.true_or, Bool.false_or, Bool.and_true, Bool.true_and, Bool.false_and, Bool.and_false, x0, x1, xs, ad]
  rfl
end
theorem if_same {f g : M R} {u : SM} {δ δ1 : DEnv} {as : List No} (hf : f δ = .ok (.slot 22) δ) (hd : slotD δ[22]? δ1 = .ok (lsD as) δ1) (hg : g δ = .ok (.new (lsD as)) δ1) (he : δ1[22]? = δ[22]?) : ifS (boolM (bin2 neD f g)) u passS δ = .nx δ1 := by
  have hd' : slotD δ1[22]? δ1 = .ok (lsD as) δ1 := by rw [he]; exact hd
  simp only [bd_ok, bd_ex, bd_bad, q_pure, q_optS, q_optN, sq_nx, sq_rt, sq_ex, sq_bad, q_seq, q_pass, of_ok, of_ex, of_bad, q_expr, q_if, q_ret, ret_val, ret_new, q_raise, q_var, sv_pers, sv_own, sv_bor, q_con, q_datV, q_datN, q_datS, sd_some, q_optRS, q_optRN, res_t, res_f, q_bin2, q_un1, q_persM, pr_val, pr_new, pr_slot, sp_own, q_mvM, mv_val, mv_new, mv_slot, sm_own, q_set, q_free, fr_none, fr_pers, fr_own, put_val, put_new, q_not, q_andB, q_orB, q_boolM, br_bool, q_andM, q_orM, q_notM, q_ifM, q_chn2, ch_bool, q_cons, q_nil, q_tup, q_lst, q_opd1, q_opd2, q_callM, q_callF, fr_ok, fr_ex, fr_bad, q_callB, ld_own, ld_bor, fb_ok, fb_ex, q_has, has_some, os_ok, ns_some, ms_own, ms_bor, q_st, mt_some, mu_own, mu_bor, q_mutV, q_ownT, ow_own, ow_bor, q_m1, q_m0, q_tgN, q_tg, q_tgR, to_some, tgT_tup, tgT_lst, tgC_cons, tgN_nil, q_for, q_map1, q_walk, so_list, so_tup, wo_list, wo_tup, e_add, e_sub, e_neg, e_lt, e_gt, e_le, e_ge, e_eq, e_ne, e_isN, e_isnN, e_isB, e_isnB, pk_some, e_ixL, e_ixT, e_lastL, e_lastT, e_part, e_intR, e_noPart, e_slice, e_slL, e_slT, q_par, q_par1, q_par2, po_val, po_new, nx_some, q_getM, q_getE, gate_some, go_int, dat_val, q_pop2, ow_dict, fin_nx, fin_rt, fin_ex, bor_t, bor_f, e_lenL, e_lenT, e_abs, e_min, e_max, e_int, e_intB, e_tupL, e_tupT, e_lstL, e_lstT, e_all, e_any, e_sum, e_isa, e_set0, e_set2, Int.reduceLE, Int.reduceLT, Int.reduceToNat, Int.reduceNeg, Int.le_refl, Int.toNat_zero, List.getElem?_cons_zero, List.getElem?_cons_succ, List.set_cons_zero, List.set_cons_succ, Option.bind_some, Bool.false_eq_true, if_true, if_false, ite_true, ite_false, reduceIte, decide_true, decide_false, Bool.not_true, Bool.not_false, List.map_cons, List.map_nil, List.any_cons, List.any_nil, Bool.or_false, Bool.or_true, Bool.true_or, Bool.false_or, Bool.and_true, Bool.true_and, Bool.false_and, Bool.and_false, hf, hg, hd', neD_ls]
theorem law_plain (y : PyData) (hb : IsBag y) : ∃ δ, t_law (bagE 23 y) = .nx δ := by
  have B : Bg 1000000 y := hb
  obtain ⟨g, t, ls, y1, e1, D, ln, _, B1⟩ := law_drive_ok B (by decide)
  obtain ⟨v2, y2, e2, p2, q2, B2⟩ := take_ok (m := 39) B1 (by decide) (by decide) (by omega)
  obtain ⟨r, y3, e3, ok, lr, hr, B3⟩ := law_roll_ok (lanes := [2, 5]) (nl := 2) rfl (by decide) (by decide) (by decide) (n := 10) (by decide) (by decide) B2 (by omega)
  obtain ⟨v4, y4, e4, p4, q4, B4⟩ := take_ok (m := 40) B3 (by decide) (by decide) (by omega)
  obtain ⟨v5, y5, e5, p5, q5, B5⟩ := take_ok (m := 50) B4 (by decide) (by decide) (by omega)
  obtain ⟨v6, y6, e6, p6, q6, B6⟩ := take_ok (m := 50) B5 (by decide) (by decide) (by omega)
  have w0 : 1 ≤ 1 + v2 := by omega
  have w1 : 1 + v2 ≤ 39 := by omega
  generalize hw : 1 + v2 = w at w0 w1
  have p0 : 1 ≤ 1 + v4 := by omega
  have p1 : 1 + v4 ≤ 40 := by omega
  generalize hp : 1 + v4 = p at p0 p1
  have k0 : 1 ≤ 1 + v5 := by omega
  have k1 : 1 + v5 ≤ 50 := by omega
  generalize hk : 1 + v5 = k at k0 k1
  have t0 : 1 ≤ 1 + v6 := by omega
  have t1 : 1 + v6 ≤ 50 := by omega
  generalize ht : 1 + v6 = t2 at t0 t1
  have h25 : ∀ h ∈ r, h.1 = 2 ∨ h.1 = 5 := fun h hh => by
    have := (hr h hh).1
    simpa using this
  have h41 : ∀ h ∈ r, h.2.2 ≤ 4100 := fun h hh => (hr h hh).2
  have okl := lg_ok ok fun h hh => by have := h41 h hh; omega
  have pk : p * k ≤ 40 * 50 := Int.mul_le_mul p1 k1 (by omega) (by decide)
  have E := even_dr t0 t1 p0 p1
  have okL := later_ok ok p0 k0 pk h41
  have okM := mv_ok ok fun h hh => by have := h25 h hh; omega
  have hl := ok.len
  have s3 := loop_longer (g := g) (t := t) (w := w) (ls := ls) (y := y3) hl r [] (fun h hh => hh) (by show 0 + _ < 5000; omega)
  rw [List.nil_append] at s3
  have s2 := loop_lanes (y := y3) D w0 w1 ok okl [2, 5] (by decide)
  have s1 := loop_even (g := g) (t := t) (w := w) (ls := ls) (lo := r.map (lg r)) (y := y6) E p0 p1 k0 k1 ok okL [2, 5] (by decide)
  have c2 := comp_later (g := g) (t := t) (w := w) (ls := ls) (lo := r.map (lg r)) (y := y5) p0 p1 k0 k1 hl
  have c0 := comp_up (lo := r.map (lg r)) (y := y6) (t2 := t2) (p := p) (k := k) D w0 (by omega : w ≤ 40) ok h25
  have pl := plN_len g t ls w r
  have so := sort_ls ((srt (plN g t ls w r)).map up3) (by rw [List.length_map, srt_len]; omega)
  have f1 := moved_ok ok fun h hh => by have := h25 h hh; omega
  have f2 := played_ok D w0 (by omega : w ≤ 40) okM
  have es : srt ((srt (plN g t ls w r)).map up3) = srt (plN g t ls w (r.map mv)) := by
    rw [plN_mv h25]
    exact srt_congr ((srt_perm _).map up3)
  rw [es] at so
  generalize srt (plN g t ls w (r.map mv)) = nn at so f2
  have hlanes : lsD ([2, 5] : List Int) = PyData.list [.int 2, .int 5] := rfl
  rw [hlanes] at e3
  have wt : ([2, 5] : List Int).map PyData.int = [.int 2, .int 5] := rfl
  rw [wt] at s1 s2
  unfold t_law l_law_1 l_law_2 l_law_3
  rw [show bagE 23 y = [none, some (.own, y), none, none, none, none, none, none, none, none, none, none, none, none, none, none, none, none, none, none, none, none, none] from rfl]
  refine seq_ex (δ1 := [none, some (.own, y2), some (.pers, drvD g t ls), some (.pers, .int w), none, none, none, none, none, none, none, none, none, none, none, none, none, none, none, none, none, none, none]) (by simp only [bd_ok, bd_ex, bd_bad, q_pure, q_optS, q_optN, sq_nx, sq_rt, sq_ex, sq_bad, q_seq, q_pass, of_ok, of_ex, of_bad, q_expr, q_if, q_ret, ret_val, ret_new, q_raise, q_var, sv_pers, sv_own, sv_bor, q_con, q_datV, q_datN, q_datS, sd_some, q_optRS, q_optRN, res_t, res_f, q_bin2, q_un1, q_persM, pr_val, pr_new, pr_slot, sp_own, q_mvM, mv_val, mv_new, mv_slot, sm_own, q_set, q_free, fr_none, fr_pers, fr_own, put_val, put_new, q_not, q_andB, q_orB, q_boolM, br_bool, q_andM, q_orM, q_notM, q_ifM, q_chn2, ch_bool, q_cons, q_nil, q_tup, q_lst, q_opd1, q_opd2, q_callM, q_callF, fr_ok, fr_ex, fr_bad, q_callB, ld_own, ld_bor, fb_ok, fb_ex, q_has, has_some, os_ok, ns_some, ms_own, ms_bor, q_st, mt_some, mu_own, mu_bor, q_mutV, q_ownT, ow_own, ow_bor, q_m1, q_m0, q_tgN, q_tg, q_tgR, to_some, tgT_tup, tgT_lst, tgC_cons, tgN_nil, q_for, q_map1, q_walk, so_list, so_tup, wo_list, wo_tup, e_add, e_sub, e_neg, e_lt, e_gt, e_le, e_ge, e_eq, e_ne, e_isN, e_isnN, e_isB, e_isnB, pk_some, e_ixL, e_ixT, e_lastL, e_lastT, e_part, e_intR, e_noPart, e_slice, e_slL, e_slT, q_par, q_par1, q_par2, po_val, po_new, nx_some, q_getM, q_getE, gate_some, go_int, dat_val, q_pop2, ow_dict, fin_nx, fin_rt, fin_ex, bor_t, bor_f, e_lenL, e_lenT, e_abs, e_min, e_max, e_int, e_intB, e_tupL, e_tupT, e_lstL, e_lstT, e_all, e_any, e_sum, e_isa, e_set0, e_set2, Int.reduceLE, Int.reduceLT, Int.reduceToNat, Int.reduceNeg, Int.le_refl, Int.toNat_zero, List.getElem?_cons_zero, List.getElem?_cons_succ, List.set_cons_zero, List.set_cons_succ, Option.bind_some, Bool.false_eq_true, if_true, if_false, ite_true, ite_false, reduceIte, decide_true, decide_false, Bool.not_true, Bool.not_false, List.map_cons, List.map_nil, List.any_cons, List.any_nil, Bool.or_false, Bool.or_true, Bool.true_or, Bool.false_or, Bool.and_true, Bool.true_and, Bool.false_and, Bool.and_false, e1, e2, hw]) ?_
  refine seq_ex (δ1 := [none, some (.own, y3), some (.pers, drvD g t ls), some (.pers, .int w), some (.pers, tpD r), none, none, none, none, none, none, none, none, none, none, none, none, none, none, none, none, none, none]) (by simp only [bd_ok, bd_ex, bd_bad, q_pure, q_optS, q_optN, sq_nx, sq_rt, sq_ex, sq_bad, q_seq, q_pass, of_ok, of_ex, of_bad, q_expr, q_if, q_ret, ret_val, ret_new, q_raise, q_var, sv_pers, sv_own, sv_bor, q_con, q_datV, q_datN, q_datS, sd_some, q_optRS, q_optRN, res_t, res_f, q_bin2, q_un1, q_persM, pr_val, pr_new, pr_slot, sp_own, q_mvM, mv_val, mv_new, mv_slot, sm_own, q_set, q_free, fr_none, fr_pers, fr_own, put_val, put_new, q_not, q_andB, q_orB, q_boolM, br_bool, q_andM, q_orM, q_notM, q_ifM, q_chn2, ch_bool, q_cons, q_nil, q_tup, q_lst, q_opd1, q_opd2, q_callM, q_callF, fr_ok, fr_ex, fr_bad, q_callB, ld_own, ld_bor, fb_ok, fb_ex, q_has, has_some, os_ok, ns_some, ms_own, ms_bor, q_st, mt_some, mu_own, mu_bor, q_mutV, q_ownT, ow_own, ow_bor, q_m1, q_m0, q_tgN, q_tg, q_tgR, to_some, tgT_tup, tgT_lst, tgC_cons, tgN_nil, q_for, q_map1, q_walk, so_list, so_tup, wo_list, wo_tup, e_add, e_sub, e_neg, e_lt, e_gt, e_le, e_ge, e_eq, e_ne, e_isN, e_isnN, e_isB, e_isnB, pk_some, e_ixL, e_ixT, e_lastL, e_lastT, e_part, e_intR, e_noPart, e_slice, e_slL, e_slT, q_par, q_par1, q_par2, po_val, po_new, nx_some, q_getM, q_getE, gate_some, go_int, dat_val, q_pop2, ow_dict, fin_nx, fin_rt, fin_ex, bor_t, bor_f, e_lenL, e_lenT, e_abs, e_min, e_max, e_int, e_intB, e_tupL, e_tupT, e_lstL, e_lstT, e_all, e_any, e_sum, e_isa, e_set0, e_set2, Int.reduceLE, Int.reduceLT, Int.reduceToNat, Int.reduceNeg, Int.le_refl, Int.toNat_zero, List.getElem?_cons_zero, List.getElem?_cons_succ, List.set_cons_zero, List.set_cons_succ, Option.bind_some, Bool.false_eq_true, if_true, if_false, ite_true, ite_false, reduceIte, decide_true, decide_false, Bool.not_true, Bool.not_false, List.map_cons, List.map_nil, List.any_cons, List.any_nil, Bool.or_false, Bool.or_true, Bool.true_or, Bool.false_or, Bool.and_true, Bool.true_and, Bool.false_and, Bool.and_false, e3]) ?_
  refine seq_ex (δ1 := [none, some (.own, y3), some (.pers, drvD g t ls), some (.pers, .int w), some (.pers, tpD r), some (.own, lsD ([] : List Ho)), none, none, none, none, none, none, none, none, none, none, none, none, none, none, none, none, none]) (by simp only [bd_ok, bd_ex, bd_bad, q_pure, q_optS, q_optN, sq_nx, sq_rt, sq_ex, sq_bad, q_seq, q_pass, of_ok, of_ex, of_bad, q_expr, q_if, q_ret, ret_val, ret_new, q_raise, q_var, sv_pers, sv_own, sv_bor, q_con, q_datV, q_datN, q_datS, sd_some, q_optRS, q_optRN, res_t, res_f, q_bin2, q_un1, q_persM, pr_val, pr_new, pr_slot, sp_own, q_mvM, mv_val, mv_new, mv_slot, sm_own, q_set, q_free, fr_none, fr_pers, fr_own, put_val, put_new, q_not, q_andB, q_orB, q_boolM, br_bool, q_andM, q_orM, q_notM, q_ifM, q_chn2, ch_bool, q_cons, q_nil, q_tup, q_lst, q_opd1, q_opd2, q_callM, q_callF, fr_ok, fr_ex, fr_bad, q_callB, ld_own, ld_bor, fb_ok, fb_ex, q_has, has_some, os_ok, ns_some, ms_own, ms_bor, q_st, mt_some, mu_own, mu_bor, q_mutV, q_ownT, ow_own, ow_bor, q_m1, q_m0, q_tgN, q_tg, q_tgR, to_some, tgT_tup, tgT_lst, tgC_cons, tgN_nil, q_for, q_map1, q_walk, so_list, so_tup, wo_list, wo_tup, e_add, e_sub, e_neg, e_lt, e_gt, e_le, e_ge, e_eq, e_ne, e_isN, e_isnN, e_isB, e_isnB, pk_some, e_ixL, e_ixT, e_lastL, e_lastT, e_part, e_intR, e_noPart, e_slice, e_slL, e_slT, q_par, q_par1, q_par2, po_val, po_new, nx_some, q_getM, q_getE, gate_some, go_int, dat_val, q_pop2, ow_dict, fin_nx, fin_rt, fin_ex, bor_t, bor_f, e_lenL, e_lenT, e_abs, e_min, e_max, e_int, e_intB, e_tupL, e_tupT, e_lstL, e_lstT, e_all, e_any, e_sum, e_isa, e_set0, e_set2, Int.reduceLE, Int.reduceLT, Int.reduceToNat, Int.reduceNeg, Int.le_refl, Int.toNat_zero, List.getElem?_cons_zero, List.getElem?_cons_succ, List.set_cons_zero, List.set_cons_succ, Option.bind_some, Bool.false_eq_true, if_true, if_false, ite_true, ite_false, reduceIte, decide_true, decide_false, Bool.not_true, Bool.not_false, List.map_cons, List.map_nil, List.any_cons, List.any_nil, Bool.or_false, Bool.or_true, Bool.true_or, Bool.false_or, Bool.and_true, Bool.true_and, Bool.false_and, Bool.and_false]; rfl) ?_
  refine seq_ex (δ1 := [none, some (.own, y3), some (.pers, drvD g t ls), some (.pers, .int w), some (.pers, tpD r), some (.own, lsD (r.map (lg r))), none, none, none, none, none, none, none, none, none, none, none, none, none, none, none, none, none]) (by simp only [bd_ok, bd_ex, bd_bad, q_pure, q_optS, q_optN, sq_nx, sq_rt, sq_ex, sq_bad, q_seq, q_pass, of_ok, of_ex, of_bad, q_expr, q_if, q_ret, ret_val, ret_new, q_raise, q_var, sv_pers, sv_own, sv_bor, q_con, q_datV, q_datN, q_datS, sd_some, q_optRS, q_optRN, res_t, res_f, q_bin2, q_un1, q_persM, pr_val, pr_new, pr_slot, sp_own, q_mvM, mv_val, mv_new, mv_slot, sm_own, q_set, q_free, fr_none, fr_pers, fr_own, put_val, put_new, q_not, q_andB, q_orB, q_boolM, br_bool, q_andM, q_orM, q_notM, q_ifM, q_chn2, ch_bool, q_cons, q_nil, q_tup, q_lst, q_opd1, q_opd2, q_callM, q_callF, fr_ok, fr_ex, fr_bad, q_callB, ld_own, ld_bor, fb_ok, fb_ex, q_has, has_some, os_ok, ns_some, ms_own, ms_bor, q_st, mt_some, mu_own, mu_bor, q_mutV, q_ownT, ow_own, ow_bor, q_m1, q_m0, q_tgN, q_tg, q_tgR, to_some, tgT_tup, tgT_lst, tgC_cons, tgN_nil, q_for, q_map1, q_walk, so_list, so_tup, wo_list, wo_tup, e_add, e_sub, e_neg, e_lt, e_gt, e_le, e_ge, e_eq, e_ne, e_isN, e_isnN, e_isB, e_isnB, pk_some, e_ixL, e_ixT, e_lastL, e_lastT, e_part, e_intR, e_noPart, e_slice, e_slL, e_slT, q_par, q_par1, q_par2, po_val, po_new, nx_some, q_getM, q_getE, gate_some, go_int, dat_val, q_pop2, ow_dict, fin_nx, fin_rt, fin_ex, bor_t, bor_f, e_lenL, e_lenT, e_abs, e_min, e_max, e_int, e_intB, e_tupL, e_tupT, e_lstL, e_lstT, e_all, e_any, e_sum, e_isa, e_set0, e_set2, Int.reduceLE, Int.reduceLT, Int.reduceToNat, Int.reduceNeg, Int.le_refl, Int.toNat_zero, List.getElem?_cons_zero, List.getElem?_cons_succ, List.set_cons_zero, List.set_cons_succ, Option.bind_some, Bool.false_eq_true, if_true, if_false, ite_true, ite_false, reduceIte, decide_true, decide_false, Bool.not_true, Bool.not_false, List.map_cons, List.map_nil, List.any_cons, List.any_nil, Bool.or_false, Bool.or_true, Bool.true_or, Bool.false_or, Bool.and_true, Bool.true_and, Bool.false_and, Bool.and_false, show walkO (tpD r) = some (r.map Pln.e) from rfl, s3]) ?_
  refine seq_ex (δ1 := [none, some (.own, y3), some (.pers, drvD g t ls), some (.pers, .int w), some (.pers, tpD r), some (.own, lsD (r.map (lg r))), none, none, none, none, none, none, none, none, none, none, none, none, none, none, none, none, none]) (by simp only [bd_ok, bd_ex, bd_bad, q_pure, q_optS, q_optN, sq_nx, sq_rt, sq_ex, sq_bad, q_seq, q_pass, of_ok, of_ex, of_bad, q_expr, q_if, q_ret, ret_val, ret_new, q_raise, q_var, sv_pers, sv_own, sv_bor, q_con, q_datV, q_datN, q_datS, sd_some, q_optRS, q_optRN, res_t, res_f, q_bin2, q_un1, q_persM, pr_val, pr_new, pr_slot, sp_own, q_mvM, mv_val, mv_new, mv_slot, sm_own, q_set, q_free, fr_none, fr_pers, fr_own, put_val, put_new, q_not, q_andB, q_orB, q_boolM, br_bool, q_andM, q_orM, q_notM, q_ifM, q_chn2, ch_bool, q_cons, q_nil, q_tup, q_lst, q_opd1, q_opd2, q_callM, q_callF, fr_ok, fr_ex, fr_bad, q_callB, ld_own, ld_bor, fb_ok, fb_ex, q_has, has_some, os_ok, ns_some, ms_own, ms_bor, q_st, mt_some, mu_own, mu_bor, q_mutV, q_ownT, ow_own, ow_bor, q_m1, q_m0, q_tgN, q_tg, q_tgR, to_some, tgT_tup, tgT_lst, tgC_cons, tgN_nil, q_for, q_map1, q_walk, so_list, so_tup, wo_list, wo_tup, e_add, e_sub, e_neg, e_lt, e_gt, e_le, e_ge, e_eq, e_ne, e_isN, e_isnN, e_isB, e_isnB, pk_some, e_ixL, e_ixT, e_lastL, e_lastT, e_part, e_intR, e_noPart, e_slice, e_slL, e_slT, q_par, q_par1, q_par2, po_val, po_new, nx_some, q_getM, q_getE, gate_some, go_int, dat_val, q_pop2, ow_dict, fin_nx, fin_rt, fin_ex, bor_t, bor_f, e_lenL, e_lenT, e_abs, e_min, e_max, e_int, e_intB, e_tupL, e_tupT, e_lstL, e_lstT, e_all, e_any, e_sum, e_isa, e_set0, e_set2, Int.reduceLE, Int.reduceLT, Int.reduceToNat, Int.reduceNeg, Int.le_refl, Int.toNat_zero, List.getElem?_cons_zero, List.getElem?_cons_succ, List.set_cons_zero, List.set_cons_succ, Option.bind_some, Bool.false_eq_true, if_true, if_false, ite_true, ite_false, reduceIte, decide_true, decide_false, Bool.not_true, Bool.not_false, List.map_cons, List.map_nil, List.any_cons, List.any_nil, Bool.or_false, Bool.or_true, Bool.true_or, Bool.false_or, Bool.and_true, Bool.true_and, Bool.false_and, Bool.and_false, s2]) ?_
  refine seq_ex (δ1 := [none, some (.own, y4), some (.pers, drvD g t ls), some (.pers, .int w), some (.pers, tpD r), some (.own, lsD (r.map (lg r))), none, none, none, none, none, none, none, none, none, some (.pers, .int p), none, none, none, none, none, none, none]) (by simp only [bd_ok, bd_ex, bd_bad, q_pure, q_optS, q_optN, sq_nx, sq_rt, sq_ex, sq_bad, q_seq, q_pass, of_ok, of_ex, of_bad, q_expr, q_if, q_ret, ret_val, ret_new, q_raise, q_var, sv_pers, sv_own, sv_bor, q_con, q_datV, q_datN, q_datS, sd_some, q_optRS, q_optRN, res_t, res_f, q_bin2, q_un1, q_persM, pr_val, pr_new, pr_slot, sp_own, q_mvM, mv_val, mv_new, mv_slot, sm_own, q_set, q_free, fr_none, fr_pers, fr_own, put_val, put_new, q_not, q_andB, q_orB, q_boolM, br_bool, q_andM, q_orM, q_notM, q_ifM, q_chn2, ch_bool, q_cons, q_nil, q_tup, q_lst, q_opd1, q_opd2, q_callM, q_callF, fr_ok, fr_ex, fr_bad, q_callB, ld_own, ld_bor, fb_ok, fb_ex, q_has, has_some, os_ok, ns_some, ms_own, ms_bor, q_st, mt_some, mu_own, mu_bor, q_mutV, q_ownT, ow_own, ow_bor, q_m1, q_m0, q_tgN, q_tg, q_tgR, to_some, tgT_tup, tgT_lst, tgC_cons, tgN_nil, q_for, q_map1, q_walk, so_list, so_tup, wo_list, wo_tup, e_add, e_sub, e_neg, e_lt, e_gt, e_le, e_ge, e_eq, e_ne, e_isN, e_isnN, e_isB, e_isnB, pk_some, e_ixL, e_ixT, e_lastL, e_lastT, e_part, e_intR, e_noPart, e_slice, e_slL, e_slT, q_par, q_par1, q_par2, po_val, po_new, nx_some, q_getM, q_getE, gate_some, go_int, dat_val, q_pop2, ow_dict, fin_nx, fin_rt, fin_ex, bor_t, bor_f, e_lenL, e_lenT, e_abs, e_min, e_max, e_int, e_intB, e_tupL, e_tupT, e_lstL, e_lstT, e_all, e_any, e_sum, e_isa, e_set0, e_set2, Int.reduceLE, Int.reduceLT, Int.reduceToNat, Int.reduceNeg, Int.le_refl, Int.toNat_zero, List.getElem?_cons_zero, List.getElem?_cons_succ, List.set_cons_zero, List.set_cons_succ, Option.bind_some, Bool.false_eq_true, if_true, if_false, ite_true, ite_false, reduceIte, decide_true, decide_false, Bool.not_true, Bool.not_false, List.map_cons, List.map_nil, List.any_cons, List.any_nil, Bool.or_false, Bool.or_true, Bool.true_or, Bool.false_or, Bool.and_true, Bool.true_and, Bool.false_and, Bool.and_false, e4, hp]) ?_
  refine seq_ex (δ1 := [none, some (.own, y5), some (.pers, drvD g t ls), some (.pers, .int w), some (.pers, tpD r), some (.own, lsD (r.map (lg r))), none, none, none, none, none, none, none, none, none, some (.pers, .int p), some (.pers, .int k), none, none, none, none, none, none]) (by simp only [bd_ok, bd_ex, bd_bad, q_pure, q_optS, q_optN, sq_nx, sq_rt, sq_ex, sq_bad, q_seq, q_pass, of_ok, of_ex, of_bad, q_expr, q_if, q_ret, ret_val, ret_new, q_raise, q_var, sv_pers, sv_own, sv_bor, q_con, q_datV, q_datN, q_datS, sd_some, q_optRS, q_optRN, res_t, res_f, q_bin2, q_un1, q_persM, pr_val, pr_new, pr_slot, sp_own, q_mvM, mv_val, mv_new, mv_slot, sm_own, q_set, q_free, fr_none, fr_pers, fr_own, put_val, put_new, q_not, q_andB, q_orB, q_boolM, br_bool, q_andM, q_orM, q_notM, q_ifM, q_chn2, ch_bool, q_cons, q_nil, q_tup, q_lst, q_opd1, q_opd2, q_callM, q_callF, fr_ok, fr_ex, fr_bad, q_callB, ld_own, ld_bor, fb_ok, fb_ex, q_has, has_some, os_ok, ns_some, ms_own, ms_bor, q_st, mt_some, mu_own, mu_bor, q_mutV, q_ownT, ow_own, ow_bor, q_m1, q_m0, q_tgN, q_tg, q_tgR, to_some, tgT_tup, tgT_lst, tgC_cons, tgN_nil, q_for, q_map1, q_walk, so_list, so_tup, wo_list, wo_tup, e_add, e_sub, e_neg, e_lt, e_gt, e_le, e_ge, e_eq, e_ne, e_isN, e_isnN, e_isB, e_isnB, pk_some, e_ixL, e_ixT, e_lastL, e_lastT, e_part, e_intR, e_noPart, e_slice, e_slL, e_slT, q_par, q_par1, q_par2, po_val, po_new, nx_some, q_getM, q_getE, gate_some, go_int, dat_val, q_pop2, ow_dict, fin_nx, fin_rt, fin_ex, bor_t, bor_f, e_lenL, e_lenT, e_abs, e_min, e_max, e_int, e_intB, e_tupL, e_tupT, e_lstL, e_lstT, e_all, e_any, e_sum, e_isa, e_set0, e_set2, Int.reduceLE, Int.reduceLT, Int.reduceToNat, Int.reduceNeg, Int.le_refl, Int.toNat_zero, List.getElem?_cons_zero, List.getElem?_cons_succ, List.set_cons_zero, List.set_cons_succ, Option.bind_some, Bool.false_eq_true, if_true, if_false, ite_true, ite_false, reduceIte, decide_true, decide_false, Bool.not_true, Bool.not_false, List.map_cons, List.map_nil, List.any_cons, List.any_nil, Bool.or_false, Bool.or_true, Bool.true_or, Bool.false_or, Bool.and_true, Bool.true_and, Bool.false_and, Bool.and_false, e5, hk]) ?_
  refine seq_ex (δ1 := [none, some (.own, y5), some (.pers, drvD g t ls), some (.pers, .int w), some (.pers, tpD r), some (.own, lsD (r.map (lg r))), none, none, none, none, none, none, none, none, none, some (.pers, .int p), some (.pers, .int k), some (.pers, tpD (r.map (later p k))), none, none, none, none, none]) (by simp only [bd_ok, bd_ex, bd_bad, q_pure, q_optS, q_optN, sq_nx, sq_rt, sq_ex, sq_bad, q_seq, q_pass, of_ok, of_ex, of_bad, q_expr, q_if, q_ret, ret_val, ret_new, q_raise, q_var, sv_pers, sv_own, sv_bor, q_con, q_datV, q_datN, q_datS, sd_some, q_optRS, q_optRN, res_t, res_f, q_bin2, q_un1, q_persM, pr_val, pr_new, pr_slot, sp_own, q_mvM, mv_val, mv_new, mv_slot, sm_own, q_set, q_free, fr_none, fr_pers, fr_own, put_val, put_new, q_not, q_andB, q_orB, q_boolM, br_bool, q_andM, q_orM, q_notM, q_ifM, q_chn2, ch_bool, q_cons, q_nil, q_tup, q_lst, q_opd1, q_opd2, q_callM, q_callF, fr_ok, fr_ex, fr_bad, q_callB, ld_own, ld_bor, fb_ok, fb_ex, q_has, has_some, os_ok, ns_some, ms_own, ms_bor, q_st, mt_some, mu_own, mu_bor, q_mutV, q_ownT, ow_own, ow_bor, q_m1, q_m0, q_tgN, q_tg, q_tgR, to_some, tgT_tup, tgT_lst, tgC_cons, tgN_nil, q_for, q_map1, q_walk, so_list, so_tup, wo_list, wo_tup, e_add, e_sub, e_neg, e_lt, e_gt, e_le, e_ge, e_eq, e_ne, e_isN, e_isnN, e_isB, e_isnB, pk_some, e_ixL, e_ixT, e_lastL, e_lastT, e_part, e_intR, e_noPart, e_slice, e_slL, e_slT, q_par, q_par1, q_par2, po_val, po_new, nx_some, q_getM, q_getE, gate_some, go_int, dat_val, q_pop2, ow_dict, fin_nx, fin_rt, fin_ex, bor_t, bor_f, e_lenL, e_lenT, e_abs, e_min, e_max, e_int, e_intB, e_tupL, e_tupT, e_lstL, e_lstT, e_all, e_any, e_sum, e_isa, e_set0, e_set2, Int.reduceLE, Int.reduceLT, Int.reduceToNat, Int.reduceNeg, Int.le_refl, Int.toNat_zero, List.getElem?_cons_zero, List.getElem?_cons_succ, List.set_cons_zero, List.set_cons_succ, Option.bind_some, Bool.false_eq_true, if_true, if_false, ite_true, ite_false, reduceIte, decide_true, decide_false, Bool.not_true, Bool.not_false, List.map_cons, List.map_nil, List.any_cons, List.any_nil, Bool.or_false, Bool.or_true, Bool.true_or, Bool.false_or, Bool.and_true, Bool.true_and, Bool.false_and, Bool.and_false, c2, tup_ls]) ?_
  refine seq_ex (δ1 := [none, some (.own, y6), some (.pers, drvD g t ls), some (.pers, .int w), some (.pers, tpD r), some (.own, lsD (r.map (lg r))), none, none, none, none, none, none, none, none, none, some (.pers, .int p), some (.pers, .int k), some (.pers, tpD (r.map (later p k))), some (.pers, drvD 0 t2 [(0, p)]), none, none, none, none]) (by simp only [bd_ok, bd_ex, bd_bad, q_pure, q_optS, q_optN, sq_nx, sq_rt, sq_ex, sq_bad, q_seq, q_pass, of_ok, of_ex, of_bad, q_expr, q_if, q_ret, ret_val, ret_new, q_raise, q_var, sv_pers, sv_own, sv_bor, q_con, q_datV, q_datN, q_datS, sd_some, q_optRS, q_optRN, res_t, res_f, q_bin2, q_un1, q_persM, pr_val, pr_new, pr_slot, sp_own, q_mvM, mv_val, mv_new, mv_slot, sm_own, q_set, q_free, fr_none, fr_pers, fr_own, put_val, put_new, q_not, q_andB, q_orB, q_boolM, br_bool, q_andM, q_orM, q_notM, q_ifM, q_chn2, ch_bool, q_cons, q_nil, q_tup, q_lst, q_opd1, q_opd2, q_callM, q_callF, fr_ok, fr_ex, fr_bad, q_callB, ld_own, ld_bor, fb_ok, fb_ex, q_has, has_some, os_ok, ns_some, ms_own, ms_bor, q_st, mt_some, mu_own, mu_bor, q_mutV, q_ownT, ow_own, ow_bor, q_m1, q_m0, q_tgN, q_tg, q_tgR, to_some, tgT_tup, tgT_lst, tgC_cons, tgN_nil, q_for, q_map1, q_walk, so_list, so_tup, wo_list, wo_tup, e_add, e_sub, e_neg, e_lt, e_gt, e_le, e_ge, e_eq, e_ne, e_isN, e_isnN, e_isB, e_isnB, pk_some, e_ixL, e_ixT, e_lastL, e_lastT, e_part, e_intR, e_noPart, e_slice, e_slL, e_slT, q_par, q_par1, q_par2, po_val, po_new, nx_some, q_getM, q_getE, gate_some, go_int, dat_val, q_pop2, ow_dict, fin_nx, fin_rt, fin_ex, bor_t, bor_f, e_lenL, e_lenT, e_abs, e_min, e_max, e_int, e_intB, e_tupL, e_tupT, e_lstL, e_lstT, e_all, e_any, e_sum, e_isa, e_set0, e_set2, Int.reduceLE, Int.reduceLT, Int.reduceToNat, Int.reduceNeg, Int.le_refl, Int.toNat_zero, List.getElem?_cons_zero, List.getElem?_cons_succ, List.set_cons_zero, List.set_cons_succ, Option.bind_some, Bool.false_eq_true, if_true, if_false, ite_true, ite_false, reduceIte, decide_true, decide_false, Bool.not_true, Bool.not_false, List.map_cons, List.map_nil, List.any_cons, List.any_nil, Bool.or_false, Bool.or_true, Bool.true_or, Bool.false_or, Bool.and_true, Bool.true_and, Bool.false_and, Bool.and_false, e6, ht]; rfl) ?_
  refine seq_ex (δ1 := [none, some (.own, y6), some (.pers, drvD g t ls), some (.pers, .int w), some (.pers, tpD r), some (.own, lsD (r.map (lg r))), none, none, none, none, none, none, none, none, none, some (.pers, .int p), some (.pers, .int k), some (.pers, tpD (r.map (later p k))), some (.pers, drvD 0 t2 [(0, p)]), none, none, none, none]) (by simp only [bd_ok, bd_ex, bd_bad, q_pure, q_optS, q_optN, sq_nx, sq_rt, sq_ex, sq_bad, q_seq, q_pass, of_ok, of_ex, of_bad, q_expr, q_if, q_ret, ret_val, ret_new, q_raise, q_var, sv_pers, sv_own, sv_bor, q_con, q_datV, q_datN, q_datS, sd_some, q_optRS, q_optRN, res_t, res_f, q_bin2, q_un1, q_persM, pr_val, pr_new, pr_slot, sp_own, q_mvM, mv_val, mv_new, mv_slot, sm_own, q_set, q_free, fr_none, fr_pers, fr_own, put_val, put_new, q_not, q_andB, q_orB, q_boolM, br_bool, q_andM, q_orM, q_notM, q_ifM, q_chn2, ch_bool, q_cons, q_nil, q_tup, q_lst, q_opd1, q_opd2, q_callM, q_callF, fr_ok, fr_ex, fr_bad, q_callB, ld_own, ld_bor, fb_ok, fb_ex, q_has, has_some, os_ok, ns_some, ms_own, ms_bor, q_st, mt_some, mu_own, mu_bor, q_mutV, q_ownT, ow_own, ow_bor, q_m1, q_m0, q_tgN, q_tg, q_tgR, to_some, tgT_tup, tgT_lst, tgC_cons, tgN_nil, q_for, q_map1, q_walk, so_list, so_tup, wo_list, wo_tup, e_add, e_sub, e_neg, e_lt, e_gt, e_le, e_ge, e_eq, e_ne, e_isN, e_isnN, e_isB, e_isnB, pk_some, e_ixL, e_ixT, e_lastL, e_lastT, e_part, e_intR, e_noPart, e_slice, e_slL, e_slT, q_par, q_par1, q_par2, po_val, po_new, nx_some, q_getM, q_getE, gate_some, go_int, dat_val, q_pop2, ow_dict, fin_nx, fin_rt, fin_ex, bor_t, bor_f, e_lenL, e_lenT, e_abs, e_min, e_max, e_int, e_intB, e_tupL, e_tupT, e_lstL, e_lstT, e_all, e_any, e_sum, e_isa, e_set0, e_set2, Int.reduceLE, Int.reduceLT, Int.reduceToNat, Int.reduceNeg, Int.le_refl, Int.toNat_zero, List.getElem?_cons_zero, List.getElem?_cons_succ, List.set_cons_zero, List.set_cons_succ, Option.bind_some, Bool.false_eq_true, if_true, if_false, ite_true, ite_false, reduceIte, decide_true, decide_false, Bool.not_true, Bool.not_false, List.map_cons, List.map_nil, List.any_cons, List.any_nil, Bool.or_false, Bool.or_true, Bool.true_or, Bool.false_or, Bool.and_true, Bool.true_and, Bool.false_and, Bool.and_false, s1]) ?_
  refine seq_ex (δ1 := [none, some (.own, y6), some (.pers, drvD g t ls), some (.pers, .int w), some (.pers, tpD r), some (.own, lsD (r.map (lg r))), none, none, none, none, none, none, none, none, none, some (.pers, .int p), some (.pers, .int k), some (.pers, tpD (r.map (later p k))), some (.pers, drvD 0 t2 [(0, p)]), none, none, none, some (.own, lsD nn)]) (by simp only [bd_ok, bd_ex, bd_bad, q_pure, q_optS, q_optN, sq_nx, sq_rt, sq_ex, sq_bad, q_seq, q_pass, of_ok, of_ex, of_bad, q_expr, q_if, q_ret, ret_val, ret_new, q_raise, q_var, sv_pers, sv_own, sv_bor, q_con, q_datV, q_datN, q_datS, sd_some, q_optRS, q_optRN, res_t, res_f, q_bin2, q_un1, q_persM, pr_val, pr_new, pr_slot, sp_own, q_mvM, mv_val, mv_new, mv_slot, sm_own, q_set, q_free, fr_none, fr_pers, fr_own, put_val, put_new, q_not, q_andB, q_orB, q_boolM, br_bool, q_andM, q_orM, q_notM, q_ifM, q_chn2, ch_bool, q_cons, q_nil, q_tup, q_lst, q_opd1, q_opd2, q_callM, q_callF, fr_ok, fr_ex, fr_bad, q_callB, ld_own, ld_bor, fb_ok, fb_ex, q_has, has_some, os_ok, ns_some, ms_own, ms_bor, q_st, mt_some, mu_own, mu_bor, q_mutV, q_ownT, ow_own, ow_bor, q_m1, q_m0, q_tgN, q_tg, q_tgR, to_some, tgT_tup, tgT_lst, tgC_cons, tgN_nil, q_for, q_map1, q_walk, so_list, so_tup, wo_list, wo_tup, e_add, e_sub, e_neg, e_lt, e_gt, e_le, e_ge, e_eq, e_ne, e_isN, e_isnN, e_isB, e_isnB, pk_some, e_ixL, e_ixT, e_lastL, e_lastT, e_part, e_intR, e_noPart, e_slice, e_slL, e_slT, q_par, q_par1, q_par2, po_val, po_new, nx_some, q_getM, q_getE, gate_some, go_int, dat_val, q_pop2, ow_dict, fin_nx, fin_rt, fin_ex, bor_t, bor_f, e_lenL, e_lenT, e_abs, e_min, e_max, e_int, e_intB, e_tupL, e_tupT, e_lstL, e_lstT, e_all, e_any, e_sum, e_isa, e_set0, e_set2, Int.reduceLE, Int.reduceLT, Int.reduceToNat, Int.reduceNeg, Int.le_refl, Int.toNat_zero, List.getElem?_cons_zero, List.getElem?_cons_succ, List.set_cons_zero, List.set_cons_succ, Option.bind_some, Bool.false_eq_true, if_true, if_false, ite_true, ite_false, reduceIte, decide_true, decide_false, Bool.not_true, Bool.not_false, List.map_cons, List.map_nil, List.any_cons, List.any_nil, Bool.or_false, Bool.or_true, Bool.true_or, Bool.false_or, Bool.and_true, Bool.true_and, Bool.false_and, Bool.and_false, c0, so]) ?_
  refine seq_ex (δ1 := [none, some (.own, y6), some (.pers, drvD g t ls), some (.pers, .int w), some (.pers, tpD r), some (.own, lsD (r.map (lg r))), none, none, none, none, none, none, none, none, none, some (.pers, .int p), some (.pers, .int k), some (.pers, tpD (r.map (later p k))), some (.pers, drvD 0 t2 [(0, p)]), none, none, none, some (.own, lsD nn)]) (if_same (as := nn) rfl rfl (by simp only [bd_ok, bd_ex, bd_bad, q_pure, q_optS, q_optN, sq_nx, sq_rt, sq_ex, sq_bad, q_seq, q_pass, of_ok, of_ex, of_bad, q_expr, q_if, q_ret, ret_val, ret_new, q_raise, q_var, sv_pers, sv_own, sv_bor, q_con, q_datV, q_datN, q_datS, sd_some, q_optRS, q_optRN, res_t, res_f, q_bin2, q_un1, q_persM, pr_val, pr_new, pr_slot, sp_own, q_mvM, mv_val, mv_new, mv_slot, sm_own, q_set, q_free, fr_none, fr_pers, fr_own, put_val, put_new, q_not, q_andB, q_orB, q_boolM, br_bool, q_andM, q_orM, q_notM, q_ifM, q_chn2, ch_bool, q_cons, q_nil, q_tup, q_lst, q_opd1, q_opd2, q_callM, q_callF, fr_ok, fr_ex, fr_bad, q_callB, ld_own, ld_bor, fb_ok, fb_ex, q_has, has_some, os_ok, ns_some, ms_own, ms_bor, q_st, mt_some, mu_own, mu_bor, q_mutV, q_ownT, ow_own, ow_bor, q_m1, q_m0, q_tgN, q_tg, q_tgR, to_some, tgT_tup, tgT_lst, tgC_cons, tgN_nil, q_for, q_map1, q_walk, so_list, so_tup, wo_list, wo_tup, e_add, e_sub, e_neg, e_lt, e_gt, e_le, e_ge, e_eq, e_ne, e_isN, e_isnN, e_isB, e_isnB, pk_some, e_ixL, e_ixT, e_lastL, e_lastT, e_part, e_intR, e_noPart, e_slice, e_slL, e_slT, q_par, q_par1, q_par2, po_val, po_new, nx_some, q_getM, q_getE, gate_some, go_int, dat_val, q_pop2, ow_dict, fin_nx, fin_rt, fin_ex, bor_t, bor_f, e_lenL, e_lenT, e_abs, e_min, e_max, e_int, e_intB, e_tupL, e_tupT, e_lstL, e_lstT, e_all, e_any, e_sum, e_isa, e_set0, e_set2, Int.reduceLE, Int.reduceLT, Int.reduceToNat, Int.reduceNeg, Int.le_refl, Int.toNat_zero, List.getElem?_cons_zero, List.getElem?_cons_succ, List.set_cons_zero, List.set_cons_succ, Option.bind_some, Bool.false_eq_true, if_true, if_false, ite_true, ite_false, reduceIte, decide_true, decide_false, Bool.not_true, Bool.not_false, List.map_cons, List.map_nil, List.any_cons, List.any_nil, Bool.or_false, Bool.or_true, Bool.true_or, Bool.false_or, Bool.and_true, Bool.true_and, Bool.false_and, Bool.and_false, f1, f2]) rfl) ?_
  exact ⟨_, rfl⟩
end K07

namespace K07
open PySem PySem.Spec PyProof.Rows L2 DL LW
def bagsScope : Scope := match defBody st__law_bags with | [.Return (some (.ListComp _ _ s _)) _] => s | _ => defScope st__law_bags
theorem all_mk {l : PySem.W.OpenLaw} {w : World} {K : PySem.W.Frag} {h : Heap} {mg : Str → Option Value} {fa f1 f2 f3 f4 f5 f6 f7 f8 f9 f10 f11 f12 f13 f14 f15 f16 f17 f18 f19 f20 f21 f22 f23 f24 f25 f26 f27 f28 f29 : Addr} {od1 an1 od2 an2 od3 an3 od4 an4 od5 an5 od6 an6 od7 an7 od8 an8 od9 an9 od10 an10 od11 an11 od12 an12 od13 an13 od14 an14 od15 an15 od16 an16 od17 an17 od18 an18 od19 an19 od20 an20 od21 an21 od22 an22 od23 an23 od24 an24 od25 an25 od26 an26 od27 an27 od28 an28 od29 an29 : Option Addr} {sl1 sl2 sl3 sl4 sl5 sl6 sl7 sl8 sl9 sl10 sl11 sl12 sl13 sl14 sl15 sl16 sl17 sl18 sl19 sl20 sl21 sl22 sl23 sl24 sl25 sl26 sl27 sl28 sl29 : Array (Option Value)} {oc1 kV1 dc1 pm1 cd1 ct1 oc2 kV2 dc2 pm2 cd2 ct2 oc3 kV3 dc3 pm3 cd3 ct3 oc4 kV4 dc4 pm4 cd4 ct4 oc5 kV5 dc5 pm5 cd5 ct5 oc6 kV6 dc6 pm6 cd6 ct6 oc7 kV7 dc7 pm7 cd7 ct7 oc8 kV8 dc8 pm8 cd8 ct8 oc9 kV9 dc9 pm9 cd9 ct9 oc10 kV10 dc10 pm10 cd10 ct10 oc11 kV11 dc11 pm11 cd11 ct11 oc12 kV12 dc12 pm12 cd12 ct12 oc13 kV13 dc13 pm13 cd13 ct13 oc14 kV14 dc14 pm14 cd14 ct14 oc15 kV15 dc15 pm15 cd15 ct15 oc16 kV16 dc16 pm16 cd16 ct16 oc17 kV17 dc17 pm17 cd17 ct17 oc18 kV18 dc18 pm18 cd18 ct18 oc19 kV19 dc19 pm19 cd19 ct19 oc20 kV20 dc20 pm20 cd20 ct20 oc21 kV21 dc21 pm21 cd21 ct21 oc22 kV22 dc22 pm22 cd22 ct22 oc23 kV23 dc23 pm23 cd23 ct23 oc24 kV24 dc24 pm24 cd24 ct24 oc25 kV25 dc25 pm25 cd25 ct25 oc26 kV26 dc26 pm26 cd26 ct26 oc27 kV27 dc27 pm27 cd27 ct27 oc28 kV28 dc28 pm28 cd28 ct28 oc29 kV29 dc29 pm29 cd29 ct29 : Value} {tk0 tk1 tk2 tk3 tk4 tk5 tk6 tk7 tk8 tk9 tk10 tk11 : Tok} {E0 E1 : Addr} (X : K.In h) (G : h.Ns mainGlobals mg) (hfa : mg "law" = some (.ref fa))
    (a1 : PySem.W.nsIn K mainGlobals "is_whole" = some (some (.ref f1)))
    (l1 : K.lookup f1 = some ⟨oc1, od1, .func (PySem.W.fnOf "is_whole" "is_whole" (defArgs st_is_whole) (defBody st_is_whole) (defScope st_is_whole) .none kV1 dc1 pm1 an1 cd1 ct1), sl1⟩)
    (c1 : PySem.W.codeIn K cd1 "is_whole" = true)
    (k1 : PySem.W.keepIn K (.ref f1) = true)
    (a2 : PySem.W.nsIn K mainGlobals "is_within" = some (some (.ref f2)))
    (l2 : K.lookup f2 = some ⟨oc2, od2, .func (PySem.W.fnOf "is_within" "is_within" (defArgs st_is_within) (defBody st_is_within) (defScope st_is_within) .none kV2 dc2 pm2 an2 cd2 ct2), sl2⟩)
    (c2 : PySem.W.codeIn K cd2 "is_within" = true)
    (k2 : PySem.W.keepIn K (.ref f2) = true)
    (a3 : PySem.W.nsIn K mainGlobals "are_rows" = some (some (.ref f3)))
    (l3 : K.lookup f3 = some ⟨oc3, od3, .func (PySem.W.fnOf "are_rows" "are_rows" (defArgs st_are_rows) (defBody st_are_rows) (defScope st_are_rows) .none kV3 dc3 pm3 an3 cd3 ct3), sl3⟩)
    (c3 : PySem.W.codeIn K cd3 "are_rows" = true)
    (k3 : PySem.W.keepIn K (.ref f3) = true)
    (a4 : PySem.W.nsIn K mainGlobals "are_levers" = some (some (.ref f4)))
    (l4 : K.lookup f4 = some ⟨oc4, od4, .func (PySem.W.fnOf "are_levers" "are_levers" (defArgs st_are_levers) (defBody st_are_levers) (defScope st_are_levers) .none kV4 dc4 pm4 an4 cd4 ct4), sl4⟩)
    (c4 : PySem.W.codeIn K cd4 "are_levers" = true)
    (k4 : PySem.W.keepIn K (.ref f4) = true)
    (a5 : PySem.W.nsIn K mainGlobals "is_drive" = some (some (.ref f5)))
    (l5 : K.lookup f5 = some ⟨oc5, od5, .func (PySem.W.fnOf "is_drive" "is_drive" (defArgs st_is_drive) (defBody st_is_drive) (defScope st_is_drive) .none kV5 dc5 pm5 an5 cd5 ct5), sl5⟩)
    (c5 : PySem.W.codeIn K cd5 "is_drive" = true)
    (k5 : PySem.W.keepIn K (.ref f5) = true)
    (a6 : PySem.W.nsIn K mainGlobals "is_width" = some (some (.ref f6)))
    (l6 : K.lookup f6 = some ⟨oc6, od6, .func (PySem.W.fnOf "is_width" "is_width" (defArgs st_is_width) (defBody st_is_width) (defScope st_is_width) .none kV6 dc6 pm6 an6 cd6 ct6), sl6⟩)
    (c6 : PySem.W.codeIn K cd6 "is_width" = true)
    (k6 : PySem.W.keepIn K (.ref f6) = true)
    (a7 : PySem.W.nsIn K mainGlobals "look_at_drive" = some (some (.ref f7)))
    (l7 : K.lookup f7 = some ⟨oc7, od7, .func (PySem.W.fnOf "look_at_drive" "look_at_drive" (defArgs st_look_at_drive) (defBody st_look_at_drive) (defScope st_look_at_drive) .none kV7 dc7 pm7 an7 cd7 ct7), sl7⟩)
    (c7 : PySem.W.codeIn K cd7 "look_at_drive" = true)
    (k7 : PySem.W.keepIn K (.ref f7) = true)
    (a8 : PySem.W.nsIn K mainGlobals "look_at_bar" = some (some (.ref f8)))
    (l8 : K.lookup f8 = some ⟨oc8, od8, .func (PySem.W.fnOf "look_at_bar" "look_at_bar" (defArgs st_look_at_bar) (defBody st_look_at_bar) (defScope st_look_at_bar) .none kV8 dc8 pm8 an8 cd8 ct8), sl8⟩)
    (c8 : PySem.W.codeIn K cd8 "look_at_bar" = true)
    (k8 : PySem.W.keepIn K (.ref f8) = true)
    (a9 : PySem.W.nsIn K mainGlobals "passed_by" = some (some (.ref f9)))
    (l9 : K.lookup f9 = some ⟨oc9, od9, .func (PySem.W.fnOf "passed_by" "passed_by" (defArgs st_passed_by) (defBody st_passed_by) (defScope st_passed_by) .none kV9 dc9 pm9 an9 cd9 ct9), sl9⟩)
    (c9 : PySem.W.codeIn K cd9 "passed_by" = true)
    (k9 : PySem.W.keepIn K (.ref f9) = true)
    (a10 : PySem.W.nsIn K mainGlobals "tick_by" = some (some (.ref f10)))
    (l10 : K.lookup f10 = some ⟨oc10, od10, .func (PySem.W.fnOf "tick_by" "tick_by" (defArgs st_tick_by) (defBody st_tick_by) (defScope st_tick_by) .none kV10 dc10 pm10 an10 cd10 ct10), sl10⟩)
    (c10 : PySem.W.codeIn K cd10 "tick_by" = true)
    (k10 : PySem.W.keepIn K (.ref f10) = true)
    (a11 : PySem.W.nsIn K mainGlobals "is_lane" = some (some (.ref f11)))
    (l11 : K.lookup f11 = some ⟨oc11, od11, .func (PySem.W.fnOf "is_lane" "is_lane" (defArgs st_is_lane) (defBody st_is_lane) (defScope st_is_lane) .none kV11 dc11 pm11 an11 cd11 ct11), sl11⟩)
    (c11 : PySem.W.codeIn K cd11 "is_lane" = true)
    (k11 : PySem.W.keepIn K (.ref f11) = true)
    (a12 : PySem.W.nsIn K mainGlobals "is_hole" = some (some (.ref f12)))
    (l12 : K.lookup f12 = some ⟨oc12, od12, .func (PySem.W.fnOf "is_hole" "is_hole" (defArgs st_is_hole) (defBody st_is_hole) (defScope st_is_hole) .none kV12 dc12 pm12 an12 cd12 ct12), sl12⟩)
    (c12 : PySem.W.codeIn K cd12 "is_hole" = true)
    (k12 : PySem.W.keepIn K (.ref f12) = true)
    (a13 : PySem.W.nsIn K mainGlobals "is_roll" = some (some (.ref f13)))
    (l13 : K.lookup f13 = some ⟨oc13, od13, .func (PySem.W.fnOf "is_roll" "is_roll" (defArgs st_is_roll) (defBody st_is_roll) (defScope st_is_roll) .none kV13 dc13 pm13 an13 cd13 ct13), sl13⟩)
    (c13 : PySem.W.codeIn K cd13 "is_roll" = true)
    (k13 : PySem.W.keepIn K (.ref f13) = true)
    (a14 : PySem.W.nsIn K mainGlobals "look_at_roll" = some (some (.ref f14)))
    (l14 : K.lookup f14 = some ⟨oc14, od14, .func (PySem.W.fnOf "look_at_roll" "look_at_roll" (defArgs st_look_at_roll) (defBody st_look_at_roll) (defScope st_look_at_roll) .none kV14 dc14 pm14 an14 cd14 ct14), sl14⟩)
    (c14 : PySem.W.codeIn K cd14 "look_at_roll" = true)
    (k14 : PySem.W.keepIn K (.ref f14) = true)
    (a15 : PySem.W.nsIn K mainGlobals "lane_of" = some (some (.ref f15)))
    (l15 : K.lookup f15 = some ⟨oc15, od15, .func (PySem.W.fnOf "lane_of" "lane_of" (defArgs st_lane_of) (defBody st_lane_of) (defScope st_lane_of) .none kV15 dc15 pm15 an15 cd15 ct15), sl15⟩)
    (c15 : PySem.W.codeIn K cd15 "lane_of" = true)
    (k15 : PySem.W.keepIn K (.ref f15) = true)
    (a16 : PySem.W.nsIn K mainGlobals "moved" = some (some (.ref f16)))
    (l16 : K.lookup f16 = some ⟨oc16, od16, .func (PySem.W.fnOf "moved" "moved" (defArgs st_moved) (defBody st_moved) (defScope st_moved) .none kV16 dc16 pm16 an16 cd16 ct16), sl16⟩)
    (c16 : PySem.W.codeIn K cd16 "moved" = true)
    (k16 : PySem.W.keepIn K (.ref f16) = true)
    (a17 : PySem.W.nsIn K mainGlobals "first_tick" = some (some (.ref f17)))
    (l17 : K.lookup f17 = some ⟨oc17, od17, .func (PySem.W.fnOf "first_tick" "first_tick" (defArgs st_first_tick) (defBody st_first_tick) (defScope st_first_tick) .none kV17 dc17 pm17 an17 cd17 ct17), sl17⟩)
    (c17 : PySem.W.codeIn K cd17 "first_tick" = true)
    (k17 : PySem.W.keepIn K (.ref f17) = true)
    (a18 : PySem.W.nsIn K mainGlobals "stretches_by" = some (some (.ref f18)))
    (l18 : K.lookup f18 = some ⟨oc18, od18, .func (PySem.W.fnOf "stretches_by" "stretches_by" (defArgs st_stretches_by) (defBody st_stretches_by) (defScope st_stretches_by) .none kV18 dc18 pm18 an18 cd18 ct18), sl18⟩)
    (c18 : PySem.W.codeIn K cd18 "stretches_by" = true)
    (k18 : PySem.W.keepIn K (.ref f18) = true)
    (a19 : PySem.W.nsIn K mainGlobals "stretches" = some (some (.ref f19)))
    (l19 : K.lookup f19 = some ⟨oc19, od19, .func (PySem.W.fnOf "stretches" "stretches" (defArgs st_stretches) (defBody st_stretches) (defScope st_stretches) .none kV19 dc19 pm19 an19 cd19 ct19), sl19⟩)
    (c19 : PySem.W.codeIn K cd19 "stretches" = true)
    (k19 : PySem.W.keepIn K (.ref f19) = true)
    (a20 : PySem.W.nsIn K mainGlobals "is_in" = some (some (.ref f20)))
    (l20 : K.lookup f20 = some ⟨oc20, od20, .func (PySem.W.fnOf "is_in" "is_in" (defArgs st_is_in) (defBody st_is_in) (defScope st_is_in) .none kV20 dc20 pm20 an20 cd20 ct20), sl20⟩)
    (c20 : PySem.W.codeIn K cd20 "is_in" = true)
    (k20 : PySem.W.keepIn K (.ref f20) = true)
    (a21 : PySem.W.nsIn K mainGlobals "sounded_to" = some (some (.ref f21)))
    (l21 : K.lookup f21 = some ⟨oc21, od21, .func (PySem.W.fnOf "sounded_to" "sounded_to" (defArgs st_sounded_to) (defBody st_sounded_to) (defScope st_sounded_to) .none kV21 dc21 pm21 an21 cd21 ct21), sl21⟩)
    (c21 : PySem.W.codeIn K cd21 "sounded_to" = true)
    (k21 : PySem.W.keepIn K (.ref f21) = true)
    (a22 : PySem.W.nsIn K mainGlobals "played" = some (some (.ref f22)))
    (l22 : K.lookup f22 = some ⟨oc22, od22, .func (PySem.W.fnOf "played" "played" (defArgs st_played) (defBody st_played) (defScope st_played) .none kV22 dc22 pm22 an22 cd22 ct22), sl22⟩)
    (c22 : PySem.W.codeIn K cd22 "played" = true)
    (k22 : PySem.W.keepIn K (.ref f22) = true)
    (a23 : PySem.W.nsIn K mainGlobals "_law_well" = some (some (.ref f23)))
    (l23 : K.lookup f23 = some ⟨oc23, od23, .func (PySem.W.fnOf "_law_well" "_law_well" (defArgs st__law_well) (defBody st__law_well) (defScope st__law_well) .none kV23 dc23 pm23 an23 cd23 ct23), sl23⟩)
    (c23 : PySem.W.codeIn K cd23 "_law_well" = true)
    (k23 : PySem.W.keepIn K (.ref f23) = true)
    (a24 : PySem.W.nsIn K mainGlobals "_law_take" = some (some (.ref f24)))
    (l24 : K.lookup f24 = some ⟨oc24, od24, .func (PySem.W.fnOf "_law_take" "_law_take" (defArgs st__law_take) (defBody st__law_take) (defScope st__law_take) .none kV24 dc24 pm24 an24 cd24 ct24), sl24⟩)
    (c24 : PySem.W.codeIn K cd24 "_law_take" = true)
    (k24 : PySem.W.keepIn K (.ref f24) = true)
    (a25 : PySem.W.nsIn K mainGlobals "_law_drive" = some (some (.ref f25)))
    (l25 : K.lookup f25 = some ⟨oc25, od25, .func (PySem.W.fnOf "_law_drive" "_law_drive" (defArgs st__law_drive) (defBody st__law_drive) (defScope st__law_drive) .none kV25 dc25 pm25 an25 cd25 ct25), sl25⟩)
    (c25 : PySem.W.codeIn K cd25 "_law_drive" = true)
    (k25 : PySem.W.keepIn K (.ref f25) = true)
    (a26 : PySem.W.nsIn K mainGlobals "_law_roll" = some (some (.ref f26)))
    (l26 : K.lookup f26 = some ⟨oc26, od26, .func (PySem.W.fnOf "_law_roll" "_law_roll" (defArgs st__law_roll) (defBody st__law_roll) (defScope st__law_roll) .none kV26 dc26 pm26 an26 cd26 ct26), sl26⟩)
    (c26 : PySem.W.codeIn K cd26 "_law_roll" = true)
    (k26 : PySem.W.keepIn K (.ref f26) = true)
    (a27 : PySem.W.nsIn K mainGlobals "_law_ticks" = some (some (.ref f27)))
    (l27 : K.lookup f27 = some ⟨oc27, od27, .func (PySem.W.fnOf "_law_ticks" "_law_ticks" (defArgs st__law_ticks) (defBody st__law_ticks) (defScope st__law_ticks) .none kV27 dc27 pm27 an27 cd27 ct27), sl27⟩)
    (c27 : PySem.W.codeIn K cd27 "_law_ticks" = true)
    (k27 : PySem.W.keepIn K (.ref f27) = true)
    (a28 : PySem.W.nsIn K mainGlobals "_law_bags" = some (some (.ref f28)))
    (l28 : K.lookup f28 = some ⟨oc28, od28, .func (PySem.W.fnOf "_law_bags" "_law_bags" (defArgs st__law_bags) (defBody st__law_bags) (defScope st__law_bags) .none kV28 dc28 pm28 an28 cd28 ct28), sl28⟩)
    (c28 : PySem.W.codeIn K cd28 "_law_bags" = true)
    (k28 : PySem.W.keepIn K (.ref f28) = true)
    (a29 : PySem.W.nsIn K mainGlobals "law" = some (some (.ref f29)))
    (l29 : K.lookup f29 = some ⟨oc29, od29, .func (PySem.W.fnOf "law" "law" (defArgs st_law) (defBody st_law) (defScope st_law) .none kV29 dc29 pm29 an29 cd29 ct29), sl29⟩)
    (c29 : PySem.W.codeIn K cd29 "law" = true)
    (k29 : PySem.W.keepIn K (.ref f29) = true)
    (z0 : PySem.W.nsIn K mainGlobals "len" = some none)
    (z1 : PySem.W.nsIn K mainGlobals "abs" = some none)
    (z2 : PySem.W.nsIn K mainGlobals "min" = some none)
    (z3 : PySem.W.nsIn K mainGlobals "max" = some none)
    (z4 : PySem.W.nsIn K mainGlobals "int" = some none)
    (z5 : PySem.W.nsIn K mainGlobals "all" = some none)
    (z6 : PySem.W.nsIn K mainGlobals "any" = some none)
    (z7 : PySem.W.nsIn K mainGlobals "sum" = some none)
    (z8 : PySem.W.nsIn K mainGlobals "list" = some none)
    (z9 : PySem.W.nsIn K mainGlobals "tuple" = some none)
    (z10 : PySem.W.nsIn K mainGlobals "isinstance" = some none)
    (z11 : PySem.W.nsIn K mainGlobals "range" = some none)
    (z12 : PySem.W.nsIn K mainGlobals "zip" = some none)
    (z13 : PySem.W.nsIn K mainGlobals "enumerate" = some none)
    (z14 : PySem.W.nsIn K mainGlobals "bool" = some none)
    (z15 : PySem.W.nsIn K mainGlobals "str" = some none)
    (z16 : PySem.W.nsIn K mainGlobals "dict" = some none)
    (z17 : PySem.W.nsIn K mainGlobals "sorted" = some none)
    (z18 : PySem.W.nsIn K mainGlobals "set" = some none)
    (n0 : PySem.W.nsIn K mainGlobals "MOST_START" = some (some (.int 40 tk0)))
    (n1 : PySem.W.nsIn K mainGlobals "MOST_TICK" = some (some (.int 1000000 tk1)))
    (n2 : PySem.W.nsIn K mainGlobals "MOST_LEVERS" = some (some (.int 20 tk2)))
    (n3 : PySem.W.nsIn K mainGlobals "MOST_TURN" = some (some (.int 50 tk3)))
    (n4 : PySem.W.nsIn K mainGlobals "MOST_GROW" = some (some (.int 5 tk4)))
    (n5 : PySem.W.nsIn K mainGlobals "MOST_WIDTH" = some (some (.int 40 tk5)))
    (n6 : PySem.W.nsIn K mainGlobals "LAST_LANE" = some (some (.int 19 tk6)))
    (n7 : PySem.W.nsIn K mainGlobals "MOST_SPOT" = some (some (.int 20000 tk7)))
    (n8 : PySem.W.nsIn K mainGlobals "MOST_HOLES" = some (some (.int 200 tk8)))
    (n9 : PySem.W.nsIn K mainGlobals "FIRST_KEY" = some (some (.int 2 tk9)))
    (n10 : PySem.W.nsIn K mainGlobals "ACCENT" = some (some (.int 1 tk10)))
    (n11 : PySem.W.nsIn K mainGlobals "PEDAL" = some (some (.int 0 tk11)))
    (ge0 : PySem.W.nsIn K mainGlobals "NoDrive" = some (some (.ref E0)))
    (qe0 : PySem.W.excIn K E0 [.type "ValueError", .type "Exception", .type "BaseException", .type "object"] "ValueError.__new__" = true)
    (ye0 : PySem.W.keepIn K (.ref E0) = true)
    (ue0 : PySem.W.subIn K (.ref E0) (.type "BaseException") = some true)
    (te0 : PySem.W.typeIn K (.ref E0) = some (.type "type"))
    (ge1 : PySem.W.nsIn K mainGlobals "NoRoll" = some (some (.ref E1)))
    (qe1 : PySem.W.excIn K E1 [.type "ValueError", .type "Exception", .type "BaseException", .type "object"] "ValueError.__new__" = true)
    (ye1 : PySem.W.keepIn K (.ref E1) = true)
    (ue1 : PySem.W.subIn K (.ref E1) (.type "BaseException") = some true)
    (te1 : PySem.W.typeIn K (.ref E1) = some (.type "type")) :
    ∃ fd : FuncData, (∀ (s : Shared) (v : Value), BindsTo s fd ⟨[v], []⟩ [("script", v)]) ∧ ∀ base : Heap, K.In base → base.Ns mainGlobals mg → FnOk l.prog w K mg base (L2.CX l.prog w) 8 fa fd ["script"] (spLaw K) := by
  have e := hfa.symm.trans (PySem.W.mg_of X G a29)
  cases e
  have F1 := fun_mk (st := st_is_whole) l1 c1 k1
  have B1 := F1.binds (ps := ["thing"]) fun _ _ _ _ _ _ us hl => match us, hl with | [_], _ => rfl
  have M1 := PySem.W.mg_of X G a1
  have F2 := fun_mk (st := st_is_within) l2 c2 k2
  have B2 := F2.binds (ps := ["thing", "low", "high"]) fun _ _ _ _ _ _ us hl => match us, hl with | [_, _, _], _ => rfl
  have M2 := PySem.W.mg_of X G a2
  have F3 := fun_mk (st := st_are_rows) l3 c3 k3
  have B3 := F3.binds (ps := ["thing", "size", "high"]) fun _ _ _ _ _ _ us hl => match us, hl with | [_, _, _], _ => rfl
  have M3 := PySem.W.mg_of X G a3
  have F4 := fun_mk (st := st_are_levers) l4 c4 k4
  have B4 := F4.binds (ps := ["thing"]) fun _ _ _ _ _ _ us hl => match us, hl with | [_], _ => rfl
  have M4 := PySem.W.mg_of X G a4
  have F5 := fun_mk (st := st_is_drive) l5 c5 k5
  have B5 := F5.binds (ps := ["thing"]) fun _ _ _ _ _ _ us hl => match us, hl with | [_], _ => rfl
  have M5 := PySem.W.mg_of X G a5
  have F6 := fun_mk (st := st_is_width) l6 c6 k6
  have B6 := F6.binds (ps := ["thing"]) fun _ _ _ _ _ _ us hl => match us, hl with | [_], _ => rfl
  have M6 := PySem.W.mg_of X G a6
  have F7 := fun_mk (st := st_look_at_drive) l7 c7 k7
  have B7 := F7.binds (ps := ["drive"]) fun _ _ _ _ _ _ us hl => match us, hl with | [_], _ => rfl
  have M7 := PySem.W.mg_of X G a7
  have F8 := fun_mk (st := st_look_at_bar) l8 c8 k8
  have B8 := F8.binds (ps := ["drive", "width"]) fun _ _ _ _ _ _ us hl => match us, hl with | [_, _], _ => rfl
  have M8 := PySem.W.mg_of X G a8
  have F9 := fun_mk (st := st_passed_by) l9 c9 k9
  have B9 := F9.binds (ps := ["drive", "tick"]) fun _ _ _ _ _ _ us hl => match us, hl with | [_, _], _ => rfl
  have M9 := PySem.W.mg_of X G a9
  have F10 := fun_mk (st := st_tick_by) l10 c10 k10
  have B10 := F10.binds (ps := ["drive", "spot"]) fun _ _ _ _ _ _ us hl => match us, hl with | [_, _], _ => rfl
  have M10 := PySem.W.mg_of X G a10
  have F11 := fun_mk (st := st_is_lane) l11 c11 k11
  have B11 := F11.binds (ps := ["thing"]) fun _ _ _ _ _ _ us hl => match us, hl with | [_], _ => rfl
  have M11 := PySem.W.mg_of X G a11
  have F12 := fun_mk (st := st_is_hole) l12 c12 k12
  have B12 := F12.binds (ps := ["thing"]) fun _ _ _ _ _ _ us hl => match us, hl with | [_], _ => rfl
  have M12 := PySem.W.mg_of X G a12
  have F13 := fun_mk (st := st_is_roll) l13 c13 k13
  have B13 := F13.binds (ps := ["thing"]) fun _ _ _ _ _ _ us hl => match us, hl with | [_], _ => rfl
  have M13 := PySem.W.mg_of X G a13
  have F14 := fun_mk (st := st_look_at_roll) l14 c14 k14
  have B14 := F14.binds (ps := ["roll"]) fun _ _ _ _ _ _ us hl => match us, hl with | [_], _ => rfl
  have M14 := PySem.W.mg_of X G a14
  have F15 := fun_mk (st := st_lane_of) l15 c15 k15
  have B15 := F15.binds (ps := ["roll", "lane"]) fun _ _ _ _ _ _ us hl => match us, hl with | [_, _], _ => rfl
  have M15 := PySem.W.mg_of X G a15
  have F16 := fun_mk (st := st_moved) l16 c16 k16
  have B16 := F16.binds (ps := ["roll", "by"]) fun _ _ _ _ _ _ us hl => match us, hl with | [_, _], _ => rfl
  have M16 := PySem.W.mg_of X G a16
  have F17 := fun_mk (st := st_first_tick) l17 c17 k17
  have B17 := F17.binds (ps := ["drive", "spot"]) fun _ _ _ _ _ _ us hl => match us, hl with | [_, _], _ => rfl
  have M17 := PySem.W.mg_of X G a17
  have F18 := fun_mk (st := st_stretches_by) l18 c18 k18
  have B18 := F18.binds (ps := ["drive", "width", "roll", "lane"]) fun _ _ _ _ _ _ us hl => match us, hl with | [_, _, _, _], _ => rfl
  have M18 := PySem.W.mg_of X G a18
  have F19 := fun_mk (st := st_stretches) l19 c19 k19
  have B19 := F19.binds (ps := ["drive", "width", "roll", "lane"]) fun _ _ _ _ _ _ us hl => match us, hl with | [_, _, _, _], _ => rfl
  have M19 := PySem.W.mg_of X G a19
  have F20 := fun_mk (st := st_is_in) l20 c20 k20
  have B20 := F20.binds (ps := ["some", "tick"]) fun _ _ _ _ _ _ us hl => match us, hl with | [_, _], _ => rfl
  have M20 := PySem.W.mg_of X G a20
  have F21 := fun_mk (st := st_sounded_to) l21 c21 k21
  have B21 := F21.binds (ps := ["end", "following", "pedals"]) fun _ _ _ _ _ _ us hl => match us, hl with | [_, _, _], _ => rfl
  have M21 := PySem.W.mg_of X G a21
  have F22 := fun_mk (st := st_played) l22 c22 k22
  have B22 := F22.binds (ps := ["drive", "width", "roll"]) fun _ _ _ _ _ _ us hl => match us, hl with | [_, _, _], _ => rfl
  have M22 := PySem.W.mg_of X G a22
  have F23 := fun_mk (st := st__law_well) l23 c23 k23
  have B23 := F23.binds (ps := ["cell", "turn"]) fun _ _ _ _ _ _ us hl => match us, hl with | [_, _], _ => rfl
  have M23 := PySem.W.mg_of X G a23
  have F24 := fun_mk (st := st__law_take) l24 c24 k24
  have B24 := F24.binds (ps := ["bag", "many"]) fun _ _ _ _ _ _ us hl => match us, hl with | [_, _], _ => rfl
  have M24 := PySem.W.mg_of X G a24
  have F25 := fun_mk (st := st__law_drive) l25 c25 k25
  have B25 := F25.binds (ps := ["bag"]) fun _ _ _ _ _ _ us hl => match us, hl with | [_], _ => rfl
  have M25 := PySem.W.mg_of X G a25
  have F26 := fun_mk (st := st__law_roll) l26 c26 k26
  have B26 := F26.binds (ps := ["bag", "holes1", "lanes"]) fun _ _ _ _ _ _ us hl => match us, hl with | [_, _, _], _ => rfl
  have M26 := PySem.W.mg_of X G a26
  have F27 := fun_mk (st := st__law_ticks) l27 c27 k27
  have B27 := F27.binds (ps := ["some"]) fun _ _ _ _ _ _ us hl => match us, hl with | [_], _ => rfl
  have M27 := PySem.W.mg_of X G a27
  have F28 := fun_mk (st := st__law_bags) l28 c28 k28
  have B28 := F28.binds (ps := ["script", "most"]) fun _ _ _ _ _ _ us hl => match us, hl with | [_, _], _ => rfl
  have M28 := PySem.W.mg_of X G a28
  have F29 := fun_mk (st := st_law) l29 c29 k29
  have B29 := F29.binds (ps := ["script"]) fun _ _ _ _ _ _ us hl => match us, hl with | [_], _ => rfl
  have M29 := PySem.W.mg_of X G a29
  have W : Wd l.prog w K mg CON EXS := ⟨?_, ?_, ?_⟩
  · refine ⟨PySem.W.fnOf "law" "law" (defArgs st_law) (defBody st_law) (defScope st_law) .none kV29 dc29 pm29 an29 cd29 ct29, fun s v => .of_eq rfl, fun base _ _ => ?_⟩
    have T1 : FOk l.prog w K mg base 1 "is_whole" false f_is_whole := def_ok (k := 0) W TabOk.nil F1 S_is_whole B1 M1 b_is_whole rfl rfl
    have T2 : FOk l.prog w K mg base 2 "is_within" false f_is_within := def_ok (k := 1) W (TabOk.cons (T1.mono (by decide)) TabOk.nil) F2 S_is_within B2 M2 b_is_within rfl rfl
    have T3 : FOk l.prog w K mg base 1 "are_rows" false f_are_rows := def_ok (k := 0) W TabOk.nil F3 S_are_rows B3 M3 b_are_rows rfl rfl
    have T4 : FOk l.prog w K mg base 3 "are_levers" false f_are_levers := def_ok (k := 2) W (TabOk.cons (T2.mono (by decide)) (TabOk.cons (T3.mono (by decide)) TabOk.nil)) F4 S_are_levers B4 M4 b_are_levers rfl rfl
    have T5 : FOk l.prog w K mg base 4 "is_drive" false f_is_drive := def_ok (k := 3) W (TabOk.cons (T4.mono (by decide)) (TabOk.cons (T2.mono (by decide)) TabOk.nil)) F5 S_is_drive B5 M5 b_is_drive rfl rfl
    have T6 : FOk l.prog w K mg base 3 "is_width" false f_is_width := def_ok (k := 2) W (TabOk.cons (T2.mono (by decide)) TabOk.nil) F6 S_is_width B6 M6 b_is_width rfl rfl
    have T7 : FOk l.prog w K mg base 5 "look_at_drive" false f_look_at_drive := def_ok (k := 4) W (TabOk.cons (T5.mono (by decide)) TabOk.nil) F7 S_look_at_drive B7 M7 b_look_at_drive rfl rfl
    have T8 : FOk l.prog w K mg base 6 "look_at_bar" false f_look_at_bar := def_ok (k := 5) W (TabOk.cons (T6.mono (by decide)) (TabOk.cons (T7.mono (by decide)) TabOk.nil)) F8 S_look_at_bar B8 M8 b_look_at_bar rfl rfl
    have T9 : FOk l.prog w K mg base 1 "passed_by" false f_passed_by := def_ok (k := 0) W TabOk.nil F9 S_passed_by B9 M9 b_passed_by rfl rfl
    have T10 : FOk l.prog w K mg base 2 "tick_by" false f_tick_by := def_ok (k := 1) W (TabOk.cons (T9.mono (by decide)) TabOk.nil) F10 S_tick_by B10 M10 b_tick_by rfl rfl
    have T11 : FOk l.prog w K mg base 3 "is_lane" false f_is_lane := def_ok (k := 2) W (TabOk.cons (T2.mono (by decide)) TabOk.nil) F11 S_is_lane B11 M11 b_is_lane rfl rfl
    have T12 : FOk l.prog w K mg base 4 "is_hole" false f_is_hole := def_ok (k := 3) W (TabOk.cons (T2.mono (by decide)) (TabOk.cons (T11.mono (by decide)) TabOk.nil)) F12 S_is_hole B12 M12 b_is_hole rfl rfl
    have T13 : FOk l.prog w K mg base 5 "is_roll" false f_is_roll := def_ok (k := 4) W (TabOk.cons (T12.mono (by decide)) (TabOk.cons (T3.mono (by decide)) TabOk.nil)) F13 S_is_roll B13 M13 b_is_roll rfl rfl
    have T14 : FOk l.prog w K mg base 6 "look_at_roll" false f_look_at_roll := def_ok (k := 5) W (TabOk.cons (T13.mono (by decide)) TabOk.nil) F14 S_look_at_roll B14 M14 b_look_at_roll rfl rfl
    have T15 : FOk l.prog w K mg base 1 "lane_of" false f_lane_of := def_ok (k := 0) W TabOk.nil F15 S_lane_of B15 M15 b_lane_of rfl rfl
    have T16 : FOk l.prog w K mg base 7 "moved" false f_moved := def_ok (k := 6) W (TabOk.cons (T14.mono (by decide)) TabOk.nil) F16 S_moved B16 M16 b_moved rfl rfl
    have T17 : FOk l.prog w K mg base 3 "first_tick" false f_first_tick := def_ok (k := 2) W (TabOk.cons (T10.mono (by decide)) TabOk.nil) F17 S_first_tick B17 M17 b_first_tick rfl rfl
    have T18 : FOk l.prog w K mg base 4 "stretches_by" false f_stretches_by := def_ok (k := 3) W (TabOk.cons (T10.mono (by decide)) (TabOk.cons (T17.mono (by decide)) (TabOk.cons (T15.mono (by decide)) TabOk.nil))) F18 S_stretches_by B18 M18 b_stretches_by rfl rfl
    have T19 : FOk l.prog w K mg base 7 "stretches" false f_stretches := def_ok (k := 6) W (TabOk.cons (T18.mono (by decide)) (TabOk.cons (T11.mono (by decide)) (TabOk.cons (T14.mono (by decide)) (TabOk.cons (T8.mono (by decide)) TabOk.nil)))) F19 S_stretches B19 M19 b_stretches rfl rfl
    have T20 : FOk l.prog w K mg base 1 "is_in" false f_is_in := def_ok (k := 0) W TabOk.nil F20 S_is_in B20 M20 b_is_in rfl rfl
    have T21 : FOk l.prog w K mg base 1 "sounded_to" false f_sounded_to := def_ok (k := 0) W TabOk.nil F21 S_sounded_to B21 M21 b_sounded_to rfl rfl
    have T22 : FOk l.prog w K mg base 7 "played" false f_played := def_ok (k := 6) W (TabOk.cons (T20.mono (by decide)) (TabOk.cons (T21.mono (by decide)) (TabOk.cons (T18.mono (by decide)) (TabOk.cons (T14.mono (by decide)) (TabOk.cons (T8.mono (by decide)) TabOk.nil))))) F22 S_played B22 M22 b_played rfl rfl
    have T23 : FOk l.prog w K mg base 1 "_law_well" false f__law_well := def_ok (k := 0) W TabOk.nil F23 S__law_well B23 M23 b__law_well rfl rfl
    have T24 : FOk l.prog w K mg base 1 "_law_take" true f__law_take := def_ok (k := 0) W TabOk.nil F24 S__law_take B24 M24 b__law_take rfl rfl
    have T25 : FOk l.prog w K mg base 2 "_law_drive" true f__law_drive := def_ok (k := 1) W (TabOk.cons (T24.mono (by decide)) TabOk.nil) F25 S__law_drive B25 M25 b__law_drive rfl rfl
    have T26 : FOk l.prog w K mg base 2 "_law_roll" true f__law_roll := def_ok (k := 1) W (TabOk.cons (T24.mono (by decide)) TabOk.nil) F26 S__law_roll B26 M26 b__law_roll rfl rfl
    have T27 : FOk l.prog w K mg base 1 "_law_ticks" false f__law_ticks := def_ok (k := 0) W TabOk.nil F27 S__law_ticks B27 M27 b__law_ticks rfl rfl
    have TB := bags_ok (k := 1) (tab := [("_law_well", false, f__law_well)]) (con := CON) (exs := EXS) (scope := bagsScope) (g := (tgT (tgCons (tgN 2) (tgCons (tgN 3) tgNil)), [2, 3])) (fe := callF f__law_well (consM (persM (varM 3)) (consM (persM (bin2 mulD (conM (.int 977)) (varM 2))) nilM))) W (TabOk.cons (T23.mono (by decide)) TabOk.nil) F28 S__law_bags rfl rfl (by kernel_rfl) (by kernel_rfl) (by kernel_rfl) (by kernel_rfl) (by kernel_rfl) (by kernel_rfl) rfl (by kernel_rfl) bags_hm
    exact law_ok (k := 7) (keep := []) (body := law_body) (t := t_law) W (TabOk.cons (T22.mono (by decide)) (TabOk.cons (T16.mono (by decide)) (TabOk.cons (T19.mono (by decide)) (TabOk.cons (T24.mono (by decide)) (TabOk.cons (T27.mono (by decide)) (TabOk.cons (T26.mono (by decide)) (TabOk.cons (T25.mono (by decide)) TabOk.nil))))))) F29 S_law rfl (by decide) (by decide) (TB.mono (by decide)) M28 F28.kp B28 (by kernel_rfl) (by kernel_rfl) (by kernel_rfl) b_law (n := 23) rfl law_plain
  · intro x d e
    have key : ∀ (y : Str) (i : Int) (tk : Tok), PySem.W.nsIn K mainGlobals y = some (some (.int i tk)) → ∃ u v, mg y = some u ∧ RelV v u ∧ ∀ Q, Rep ⟨l.prog, w, K⟩ Q v (.int i) := fun y i tk n => ⟨_, .int i, PySem.W.mg_of X G n, ⟨_, rfl⟩, fun _ => .int i⟩
    by_cases h0 : (x == "MOST_START") = true
    · have := eq_of_beq h0; subst this; cases e; exact key _ _ _ n0
    by_cases h1 : (x == "MOST_TICK") = true
    · have := eq_of_beq h1; subst this; cases e; exact key _ _ _ n1
    by_cases h2 : (x == "MOST_LEVERS") = true
    · have := eq_of_beq h2; subst this; cases e; exact key _ _ _ n2
    by_cases h3 : (x == "MOST_TURN") = true
    · have := eq_of_beq h3; subst this; cases e; exact key _ _ _ n3
    by_cases h4 : (x == "MOST_GROW") = true
    · have := eq_of_beq h4; subst this; cases e; exact key _ _ _ n4
    by_cases h5 : (x == "MOST_WIDTH") = true
    · have := eq_of_beq h5; subst this; cases e; exact key _ _ _ n5
    by_cases h6 : (x == "LAST_LANE") = true
    · have := eq_of_beq h6; subst this; cases e; exact key _ _ _ n6
    by_cases h7 : (x == "MOST_SPOT") = true
    · have := eq_of_beq h7; subst this; cases e; exact key _ _ _ n7
    by_cases h8 : (x == "MOST_HOLES") = true
    · have := eq_of_beq h8; subst this; cases e; exact key _ _ _ n8
    by_cases h9 : (x == "FIRST_KEY") = true
    · have := eq_of_beq h9; subst this; cases e; exact key _ _ _ n9
    by_cases h10 : (x == "ACCENT") = true
    · have := eq_of_beq h10; subst this; cases e; exact key _ _ _ n10
    by_cases h11 : (x == "PEDAL") = true
    · have := eq_of_beq h11; subst this; cases e; exact key _ _ _ n11
    simp only [CON, List.lookup_cons, Bool.not_eq_true _ |>.mp h0, Bool.not_eq_true _ |>.mp h1, Bool.not_eq_true _ |>.mp h2, Bool.not_eq_true _ |>.mp h3, Bool.not_eq_true _ |>.mp h4, Bool.not_eq_true _ |>.mp h5, Bool.not_eq_true _ |>.mp h6, Bool.not_eq_true _ |>.mp h7, Bool.not_eq_true _ |>.mp h8, Bool.not_eq_true _ |>.mp h9, Bool.not_eq_true _ |>.mp h10, Bool.not_eq_true _ |>.mp h11, List.lookup_nil] at e
    cases e
  · intro x hx
    simp only [bltNames, List.mem_cons, List.not_mem_nil, or_false] at hx
    rcases hx with rfl | rfl | rfl | rfl | rfl | rfl | rfl | rfl | rfl | rfl | rfl | rfl | rfl | rfl | rfl | rfl | rfl | rfl | rfl
    · exact PySem.W.mg_none_of X G z0
    · exact PySem.W.mg_none_of X G z1
    · exact PySem.W.mg_none_of X G z2
    · exact PySem.W.mg_none_of X G z3
    · exact PySem.W.mg_none_of X G z4
    · exact PySem.W.mg_none_of X G z5
    · exact PySem.W.mg_none_of X G z6
    · exact PySem.W.mg_none_of X G z7
    · exact PySem.W.mg_none_of X G z8
    · exact PySem.W.mg_none_of X G z9
    · exact PySem.W.mg_none_of X G z10
    · exact PySem.W.mg_none_of X G z11
    · exact PySem.W.mg_none_of X G z12
    · exact PySem.W.mg_none_of X G z13
    · exact PySem.W.mg_none_of X G z14
    · exact PySem.W.mg_none_of X G z15
    · exact PySem.W.mg_none_of X G z16
    · exact PySem.W.mg_none_of X G z17
    · exact PySem.W.mg_none_of X G z18
  · intro x hx
    have hx := List.contains_iff_mem.mp hx
    simp only [EXS, List.mem_cons, List.not_mem_nil, or_false] at hx
    rcases hx with rfl | rfl
    · exact ⟨E0, PySem.W.mg_of X G ge0, fun X1 e1 e2 e3 e4 m j p p2 pos h1 h2 => pmk_own PySem.F.excBase_ValueError (by rw [e3]; exact qe0) (by rw [e4]; exact PySem.W.mg_of X G ge0) (by rw [e3]; exact ye0) (raises_own (by rw [e3]; exact ue0) (by rw [e3]; exact te0)) h1 h2⟩
    · exact ⟨E1, PySem.W.mg_of X G ge1, fun X1 e1 e2 e3 e4 m j p p2 pos h1 h2 => pmk_own PySem.F.excBase_ValueError (by rw [e3]; exact qe1) (by rw [e4]; exact PySem.W.mg_of X G ge1) (by rw [e3]; exact ye1) (raises_own (by rw [e3]; exact ue1) (by rw [e3]; exact te1)) h1 h2⟩
end K07
open PySem PySem.W PyProof.Rows in
set_option maxHeartbeats 0 in
theorem PySem.Challenge.cw_rollpiano_k07_whole_wider_bars_and_later_holds : PySem.Challenge.rw_rollpiano_k07_whole_wider_bars_and_later.Holds := by
  w_on; o_law; k_head; (case hw => w_witness2)
  k_fill
  refine L2.walk_of (l := PySem.Challenge.rw_rollpiano_k07_whole_wider_bars_and_later) (n := 63) (k := 8) (x := "script") (CX := fun w => L2.CX (PySem.Challenge.rw_rollpiano_k07_whole_wider_bars_and_later).prog w) (sp := fun w => DL.spLaw _) rfl (by decide) rfl ⟨rfl, by decide, by decide⟩ (fun w h Y => PySem.W.kIn_of Y) ?F (fun _ _ a ns hl _ hS => ⟨a, ns, rfl, hS, fun _ => rfl⟩) (fun w H s e s' h => by obtain ⟨_, _, _, _, _, _, _, _, _, _, _, _, z⟩ := h; exact z)
  case F =>
    intro w mg fa h KX G hmg
    refine' K07.all_mk KX G hmg ?a1 ?l1 ?c1 ?k1 ?a2 ?l2 ?c2 ?k2 ?a3 ?l3 ?c3 ?k3 ?a4 ?l4 ?c4 ?k4 ?a5 ?l5 ?c5 ?k5 ?a6 ?l6 ?c6 ?k6 ?a7 ?l7 ?c7 ?k7 ?a8 ?l8 ?c8 ?k8 ?a9 ?l9 ?c9 ?k9 ?a10 ?l10 ?c10 ?k10 ?a11 ?l11 ?c11 ?k11 ?a12 ?l12 ?c12 ?k12 ?a13 ?l13 ?c13 ?k13 ?a14 ?l14 ?c14 ?k14 ?a15 ?l15 ?c15 ?k15 ?a16 ?l16 ?c16 ?k16 ?a17 ?l17 ?c17 ?k17 ?a18 ?l18 ?c18 ?k18 ?a19 ?l19 ?c19 ?k19 ?a20 ?l20 ?c20 ?k20 ?a21 ?l21 ?c21 ?k21 ?a22 ?l22 ?c22 ?k22 ?a23 ?l23 ?c23 ?k23 ?a24 ?l24 ?c24 ?k24 ?a25 ?l25 ?c25 ?k25 ?a26 ?l26 ?c26 ?k26 ?a27 ?l27 ?c27 ?k27 ?a28 ?l28 ?c28 ?k28 ?a29 ?l29 ?c29 ?k29 ?z0 ?z1 ?z2 ?z3 ?z4 ?z5 ?z6 ?z7 ?z8 ?z9 ?z10 ?z11 ?z12 ?z13 ?z14 ?z15 ?z16 ?z17 ?z18 ?n0 ?n1 ?n2 ?n3 ?n4 ?n5 ?n6 ?n7 ?n8 ?n9 ?n10 ?n11 ?ge0 ?qe0 ?ye0 ?ue0 ?te0 ?ge1 ?qe1 ?ye1 ?ue1 ?te1
    (case a1 => k_is); (case l1 => k_is); (case c1 => k_is); (case k1 => k_is); (case a2 => k_is); (case l2 => k_is); (case c2 => k_is); (case k2 => k_is); (case a3 => k_is); (case l3 => k_is); (case c3 => k_is); (case k3 => k_is); (case a4 => k_is); (case l4 => k_is); (case c4 => k_is); (case k4 => k_is); (case a5 => k_is); (case l5 => k_is); (case c5 => k_is); (case k5 => k_is); (case a6 => k_is); (case l6 => k_is); (case c6 => k_is); (case k6 => k_is); (case a7 => k_is); (case l7 => k_is); (case c7 => k_is); (case k7 => k_is); (case a8 => k_is); (case l8 => k_is); (case c8 => k_is); (case k8 => k_is); (case a9 => k_is); (case l9 => k_is); (case c9 => k_is); (case k9 => k_is); (case a10 => k_is); (case l10 => k_is); (case c10 => k_is); (case k10 => k_is); (case a11 => k_is); (case l11 => k_is); (case c11 => k_is); (case k11 => k_is); (case a12 => k_is); (case l12 => k_is); (case c12 => k_is); (case k12 => k_is); (case a13 => k_is); (case l13 => k_is); (case c13 => k_is); (case k13 => k_is); (case a14 => k_is); (case l14 => k_is); (case c14 => k_is); (case k14 => k_is); (case a15 => k_is); (case l15 => k_is); (case c15 => k_is); (case k15 => k_is); (case a16 => k_is); (case l16 => k_is); (case c16 => k_is); (case k16 => k_is); (case a17 => k_is); (case l17 => k_is); (case c17 => k_is); (case k17 => k_is); (case a18 => k_is); (case l18 => k_is); (case c18 => k_is); (case k18 => k_is); (case a19 => k_is); (case l19 => k_is); (case c19 => k_is); (case k19 => k_is); (case a20 => k_is); (case l20 => k_is); (case c20 => k_is); (case k20 => k_is); (case a21 => k_is); (case l21 => k_is); (case c21 => k_is); (case k21 => k_is); (case a22 => k_is); (case l22 => k_is); (case c22 => k_is); (case k22 => k_is); (case a23 => k_is); (case l23 => k_is); (case c23 => k_is); (case k23 => k_is); (case a24 => k_is); (case l24 => k_is); (case c24 => k_is); (case k24 => k_is); (case a25 => k_is); (case l25 => k_is); (case c25 => k_is); (case k25 => k_is); (case a26 => k_is); (case l26 => k_is); (case c26 => k_is); (case k26 => k_is); (case a27 => k_is); (case l27 => k_is); (case c27 => k_is); (case k27 => k_is); (case a28 => k_is); (case l28 => k_is); (case c28 => k_is); (case k28 => k_is); (case a29 => k_is); (case l29 => k_is); (case c29 => k_is); (case k29 => k_is); (case z0 => k_is); (case z1 => k_is); (case z2 => k_is); (case z3 => k_is); (case z4 => k_is); (case z5 => k_is); (case z6 => k_is); (case z7 => k_is); (case z8 => k_is); (case z9 => k_is); (case z10 => k_is); (case z11 => k_is); (case z12 => k_is); (case z13 => k_is); (case z14 => k_is); (case z15 => k_is); (case z16 => k_is); (case z17 => k_is); (case z18 => k_is); (case n0 => k_is); (case n1 => k_is); (case n2 => k_is); (case n3 => k_is); (case n4 => k_is); (case n5 => k_is); (case n6 => k_is); (case n7 => k_is); (case n8 => k_is); (case n9 => k_is); (case n10 => k_is); (case n11 => k_is); (case ge0 => k_is); (case qe0 => k_exc); (case ye0 => k_is); (case ue0 => k_is); (case te0 => k_is); (case ge1 => k_is); (case qe1 => k_exc); (case ye1 => k_is); (case ue1 => k_is); (case te1 => k_is)

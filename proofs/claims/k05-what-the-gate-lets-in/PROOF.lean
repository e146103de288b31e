import PyProof.Rows.All
import Wide.All
import OpenK.AllK
import Wide.FinOn
import HandS.ForMost
import HandS.Exc
import HandS.ExcOwn
import HandS.WordsExc
import HandS.HeadHook1
import HandS.HeadHook2
import HandS.Lambda
import HandS.EndTab
import KE.KDictKeyed
import KE.KDictWalk
import KE.KDictLaw
import KE.KeyNested
import HandS.TupAny
import HandS.TupMul
import HandS.Style
import HandS.Defaults
import HandS.CallSlots
import KE.KSuper
import KE.SortKeyHeap
import KE.SortData
import HandS.New0
import KE.KExcSuper
import HandS.ExcInit
import KE.KExcIs
import HandS.ExcIs
import HandS.IsInst
import HandS.Deep
import HandS.Conv
import HandS.Dict
import PyProof.TupleOfSeq
import HandS.ExcValue
import HandS.Head0
import HandS.Head1
import HandS.Head2
import HandS.HeadEnd
import KE.KStateDown
import KE.DataAny
import HandS.SortRule
import HandS.Property
import HandS.ClsMeth
import HandS.SlotsOwn
import HandS.Text
import HandS.TryOnly
import HandS.NamedTupGet
import KE.DataMinKey
import HandS.SetFor
import HandS.Zip
import HandS.Iter
import HandS.DictComp
import KE.KDictCopyH
import KE.KDictDisplayH
import HandS.DictTup
import HandS.FStr
import HandS.Strs
import KE.DatumOrd
import KE.GoesEnum
import PyProof.InstNe
import Lean
import PySem.Challenge.RW_movedstates_k05_what_the_gate_lets_in
section
set_option Elab.async false
set_option linter.all false
set_option maxRecDepth 100000
set_option maxHeartbeats 0
namespace M
open PySem L2
/-- frozen deep data -/
inductive P where
  | non | bl (b : Bool) | int (i : Int) | str (s : Str) | tup (xs : List P) | lst (xs : List P) | rol (xs : List P) | dct (kvs : List (Key × P)) | obj (c : Str) (fs : List (Str × P)) | cls (c : Str) | dn (kvs : List (P × P))
/-- a value: frozen data, or a mutable cell -/
inductive D where
  | fz (p : P) | cell (n : Nat)
/-- what a mutable cell holds -/
inductive Ct where
  | lst (xs : List P) | dct (kvs : List (Key × P)) | obj (c : Str) (fs : List (Str × D)) | frz (p : P) | lsD (xs : List D) | tuD (xs : List D) | ldct (kvs : List (Key × P)) | dn (kvs : List (P × P))
abbrev Et := List (Option D)
abbrev Sr := List Ct
/-- a run's end: a value; an exception (its class, its own fields, the slots and the store behind it); not carried -/
inductive R (α : Type) where
  | ok (a : α) | exc (c : Str) (fs : Option (List (Str × P))) (η : Et) (st : Sr) | stuck
abbrev DE := Et → Sr → R (D × Sr)
abbrev DA := Et → Sr → R (List D × Sr)
abbrev DT := Et → Sr → R (Bool × Sr)
inductive Fl where
  | nx | rt (d : D) | bk | ct
abbrev DS := Et → Sr → R (Fl × Et × Sr)
abbrev DF := List D → Sr → R (D × Sr)
mutual
def nkP : P → Option NestedKey
  | .int i => some (.num i)
  | .tup xs => (nksP xs).map .tup
  | .non => none
  | .bl _ => none
  | .str _ => none
  | .lst _ => none
  | .rol _ => none
  | .dct _ => none
  | .obj _ _ => none
  | .cls _ => none
  | .dn _ => none
def nksP : List P → Option (List NestedKey)
  | [] => some []
  | p :: ps => match nkP p, nksP ps with
    | some k, some ks => some (k :: ks)
    | _, _ => none
end
abbrev NE := NestedKey × Addr × Value
def entN (w : World) (x : NE) : DictEntry := ⟨x.1.hash w, .ref x.2.1, x.2.2⟩
/-- the object at a is o -/
def DnO (a : Addr) (o : Obj) : HO := .ext fun h => h.get? a = some o
/-- the thing at a is a dict with nested keys -/
def DnAt (H : Hp) (a : Addr) (xs : List NE) : Prop := ∃ o es ep, H a = some (DnO a o) ∧ (a == sysModules) = false ∧ o.ExactDict ∧ o.data = .dict es ep ∧ (∀ w : World, es.toList = xs.map (entN w)) ∧ (xs.map (·.1)).Nodup ∧ xs.length ≤ sizeLine
theorem DnAt.mono {H H' : Hp} {a : Addr} {xs : List NE} (x : DnAt H a xs) (e : Same H H') : DnAt H' a xs := let ⟨o, es, ep, h, r⟩ := x; ⟨o, es, ep, e _ _ h, r⟩
section
variable (K : PySem.W.Frag)
mutual
def Rep (Z : Hp) : P → V → Prop
  | .non, v => v = .non
  | .bl b, v => v = .bl b
  | .int i, v => v = .int i
  | .str s, v => v = .str s
  | .tup xs, v => ∃ a vs, v = .ref a ∧ SqT K Z a vs ∧ Reps Z xs vs
  | .lst xs, v => ∃ a vs, v = .ref a ∧ Z a = some (.lst vs) ∧ Reps Z xs vs
  | .rol xs, v => ∃ a vs, v = .ref a ∧ SqL K Z a vs ∧ Reps Z xs vs
  | .dct kvs, v => ∃ a kws, v = .ref a ∧ Z a = some (.dK kws) ∧ RepK Z kvs kws
  | .obj c fs, v => ∃ a dx gs, v = .ref a ∧ Z a = some (.ins (He.ga K c) dx gs) ∧ RepF Z fs gs
  | .cls c, v => v = .ref (He.ga K c)
  | .dn kvs, v => ∃ a xs, v = .ref a ∧ DnAt Z a xs ∧ RepN Z kvs xs
def RepN (Z : Hp) : List (P × P) → List NE → Prop
  | [], xs => xs = []
  | (k, p) :: ps, xs => ∃ nk ka u v ws, xs = (nk, ka, u) :: ws ∧ nkP k = some nk ∧ nk.depth ≤ 8 ∧ Rep Z k (.ref ka) ∧ RelV v u ∧ Rep Z p v ∧ RepN Z ps ws
def Reps (Z : Hp) : List P → List V → Prop
  | [], vs => vs = []
  | p :: ps, vs => ∃ v ws, vs = v :: ws ∧ Rep Z p v ∧ Reps Z ps ws
def RepK (Z : Hp) : List (Key × P) → List (Key × V) → Prop
  | [], vs => vs = []
  | (k, p) :: ps, vs => ∃ v ws, vs = (k, v) :: ws ∧ Rep Z p v ∧ RepK Z ps ws
def RepF (Z : Hp) : List (Str × P) → List (Str × V) → Prop
  | [], vs => vs = []
  | (k, p) :: ps, vs => ∃ v ws, vs = (k, v) :: ws ∧ Rep Z p v ∧ RepF Z ps ws
end
def RepD (Z : Hp) (φ : List Addr) : D → V → Prop
  | .fz p, v => Rep K Z p v
  | .cell n, v => ∃ a, φ[n]? = some a ∧ v = .ref a
def RepDs (Z : Hp) (φ : List Addr) : List D → List V → Prop
  | [], vs => vs = []
  | p :: ps, vs => ∃ v ws, vs = v :: ws ∧ RepD K Z φ p v ∧ RepDs Z φ ps ws
def RepDF (Z : Hp) (φ : List Addr) : List (Str × D) → List (Str × V) → Prop
  | [], vs => vs = []
  | (k, p) :: ps, vs => ∃ v ws, vs = (k, v) :: ws ∧ RepD K Z φ p v ∧ RepDF Z φ ps ws
/-- a table of code objects, an exception's dict -/
def Oth (o : HO) : Prop := (∃ ps, o = .tbl ps) ∨ ∃ gs, o = .xd gs
/-- an object of data: none of these, no told thing -/
def Dat (o : HO) : Prop := ¬ Oth o ∧ ∀ E, o = .ext E → ∃ a ob, o = DnO a ob ∧ ∃ es ep, ob.data = .dict es ep
theorem dnO_ne {a : Addr} {ob : Obj} {es : Array DictEntry} {ep : Nat} {c : Addr} {q : Str} (hd : ob.data = .dict es ep) : DnO a ob ≠ LamX.CodeO c q := fun e => by
  have e1 : (fun h : Heap => h.get? a = some ob) = fun h : Heap => ∃ (oc : Obj) (vs : Array Value) (t : Tok), h.get? c = some oc ∧ oc.data = .fields vs ∧ vs[1]? = some (.str q t) := HO.ext.inj e
  obtain ⟨cl, od, dt, sl⟩ := ob
  have hd' : dt = .dict es ep := hd
  subst hd'
  let ob0 : Obj := ⟨cl, od, .dict es ep, sl⟩
  let h0 : Heap := { objs := Array.replicate (a + 1) ob0 }
  have hg : ∀ i, h0.get? i = if i < a + 1 then some ob0 else none := fun i => by
    have e0 : h0.objs[i]? = if i < a + 1 then some ob0 else none := Array.getElem?_replicate
    unfold Heap.get?
    rw [e0]
    by_cases c : i < a + 1
    · rw [if_pos c]
    · rw [if_neg c]
  have e2 : h0.get? a = some ob0 := by rw [hg, if_pos (Nat.lt_succ_self a)]
  have e3 := congrFun e1 h0
  have e4 : ∃ (oc : Obj) (vs : Array Value) (t : Tok), h0.get? c = some oc ∧ oc.data = .fields vs ∧ vs[1]? = some (.str q t) := by rw [← e3]; exact e2
  obtain ⟨oc, vs, t, f1, f2, _⟩ := e4
  rw [hg] at f1
  split at f1
  · cases f1; cases f2
  · cases f1
theorem dat_code {c : Addr} {q : Str} (h : Dat (LamX.CodeO c q)) : False := by
  obtain ⟨a, ob, e, es, ep, hd⟩ := h.2 _ rfl
  exact dnO_ne hd e.symm
theorem dat_dn {a : Addr} {ob : Obj} {es : Array DictEntry} {ep : Nat} (hd : ob.data = .dict es ep) : Dat (DnO a ob) := ⟨(by rintro (⟨_, z⟩ | ⟨_, z⟩) <;> cases z), fun _ _ => ⟨a, ob, rfl, es, ep, hd⟩⟩
theorem DnAt.dat {H : Hp} {a : Addr} {xs : List NE} (x : DnAt H a xs) : ∃ o, H a = some o ∧ Dat o ∧ ∀ H', H' a = some o → DnAt H' a xs := by
  obtain ⟨o, es, ep, h1, h2, h3, h4, r⟩ := x
  exact ⟨_, h1, dat_dn h4, fun H' e => ⟨o, es, ep, e, h2, h3, h4, r⟩⟩
/-- a cell's content at a -/
def RelC (Z : Hp) (φ : List Addr) (H : Hp) (a : Addr) : Ct → Prop
  | .lst xs => Z a = none ∧ ∃ vs, H a = some (.lst vs) ∧ Reps K Z xs vs
  | .dct kvs => Z a = none ∧ ∃ kws, H a = some (.dK kws) ∧ RepK K Z kvs kws
  | .obj c fs => Z a = none ∧ ∃ dx gs, H a = some (.ins (He.ga K c) dx gs) ∧ RepDF K Z φ fs gs
  | .frz p => Rep K Z p (.ref a) ∧ ∃ o, H a = some o ∧ Dat o
  | .lsD xs => Z a = none ∧ ∃ vs, H a = some (.lst vs) ∧ RepDs K Z φ xs vs
  | .tuD xs => Z a = none ∧ ∃ vs, H a = some (.tup vs) ∧ RepDs K Z φ xs vs
  | .ldct kvs => Z a = none ∧ ∃ o kws, H a = some (.frz o (.dK kws)) ∧ RepK K Z kvs kws
  | .dn kvs => Z a = none ∧ ∃ xs, DnAt H a xs ∧ RepN K Z kvs xs
/-- the defs that make a lambda: where the tables of their code objects stand, what the lambda's code is named -/
def lamDefs : List Str := ["BagKind.keep", "clusters", "outer_row", "run_values"]
def tabOf (K : PySem.W.Frag) : Obj → Option (Addr × Addr × Str)
  | ⟨_, _, .func fd, _⟩ => if lamDefs.contains fd.qualname then match fd.code with
    | .ref c => match K.lookup c with
      | some ⟨_, _, .fields vs, _⟩ => match vs.getD 11 .none with
        | .ref P => some (c, P, fd.qualname ++ ".<locals>." ++ "<lambda>")
        | _ => none
      | _ => none
    | _ => none
    else none
  | _ => none
def tabsAll (K : PySem.W.Frag) : List (Addr × Addr × Str) := K.filterMap fun p => tabOf K p.2
def tabsOf (K : PySem.W.Frag) : List (Addr × Str) := (tabsAll K).map (·.2)
structure RS (Z : Hp) (φ : List Addr) (st : Sr) (H : Hp) : Prop where
  same : Same Z H
  len : φ.length = st.length
  nd : φ.Nodup
  cells : ∀ (i : Nat) a c, φ[i]? = some a → st[i]? = some c → RelC K Z φ H a c
  tb : LamX.Tabs (tabsOf K) H
  zd : ∀ b ps, Z b ≠ some (.tbl ps)
structure Slots (Z : Hp) (φ : List Addr) (η : Et) (σ : St) : Prop where
  len : η.length = σ.length
  at_ : ∀ (i : Nat) d, η[i]? = some (some d) → ∃ v, σ[i]? = some (some v) ∧ RepD K Z φ d v
end
/-- nothing stands at a, or a table, an exception's dict -/
def Fre (H : Hp) (a : Addr) : Prop := ∀ o, H a = some o → Oth o
theorem Fre.of {H : Hp} {a : Addr} (h : H a = none) : Fre H a := fun o e => by rw [h] at e; cases e
theorem Fre.no {H : Hp} {a : Addr} {o : HO} (h : Fre H a) (e : H a = some o) (d : ¬ Oth o) : False := d (h o e)
/-- from one configuration to a later one -/
structure Step (Z : Hp) (φ : List Addr) (H : Hp) (Z' : Hp) (φ' : List Addr) (H' : Hp) : Prop where
  hz : Same Z Z'
  pre : ∃ ψ, φ' = φ ++ ψ ∧ ∀ a ∈ ψ, Fre H a
  fr : ∀ b o, H b = some o → b ∉ φ → ¬ Oth o → H' b = some o
  zn : ∀ b, Z' b ≠ none → Z b ≠ none ∨ Fre H b ∨ b ∈ φ
  up : ∀ b, Fre H' b → Fre H b
  lk : ∀ b q u, H b = some (.frz q u) → H' b = some (.frz q u)
theorem Step.refl {Z : Hp} {φ : List Addr} {H : Hp} : Step Z φ H Z φ H :=
  ⟨Same.refl _, ⟨[], by simp, by simp⟩, fun _ _ h _ _ => h, fun _ h => .inl h, fun _ h => h, fun _ _ _ h => h⟩
theorem Step.trans {Z Z1 Z2 : Hp} {φ φ1 φ2 : List Addr} {H H1 H2 : Hp} (a : Step Z φ H Z1 φ1 H1) (b : Step Z1 φ1 H1 Z2 φ2 H2) : Step Z φ H Z2 φ2 H2 := by
  obtain ⟨psi, rfl, h1⟩ := a.pre
  obtain ⟨psi2, rfl, h2⟩ := b.pre
  refine ⟨a.hz.trans b.hz, ⟨psi ++ psi2, by simp, fun c hc => ?_⟩, fun c o hc hn ht => ?_, fun c hc => ?_, fun c hc => a.up c (b.up c hc), fun c q u h => b.lk c q u (a.lk c q u h)⟩
  · rcases List.mem_append.mp hc with hc | hc
    · exact h1 c hc
    · exact a.up c (h2 c hc)
  · refine b.fr c o (a.fr c o hc hn ht) (fun hm => ?_) ht
    rcases List.mem_append.mp hm with hm | hm
    · exact hn hm
    · exact (h1 c hm).no hc ht
  · rcases b.zn c hc with h | h | h
    · exact a.zn c h
    · exact .inr (.inl (a.up c h))
    · rcases List.mem_append.mp h with h | h
      · exact .inr (.inr h)
      · exact .inr (.inl (h1 c h))
section
variable {K : PySem.W.Frag} {Z Z' H H' : Hp} {φ φ' : List Addr}
theorem same_sqT {a : Addr} {xs : List V} (e : Same Z Z') (h : SqT K Z a xs) : SqT K Z' a xs := by
  rcases h with (h | ⟨o, h⟩) | h
  · exact .inl (.inl (e _ _ h))
  · exact .inl (.inr ⟨o, e _ _ h⟩)
  · exact .inr h
mutual
theorem Rep.mono (e : Same Z Z') : ∀ (p : P) (v : V), Rep K Z p v → Rep K Z' p v
  | .non, v, h => by simpa [Rep] using h
  | .bl b, v, h => by simpa [Rep] using h
  | .int i, v, h => by simpa [Rep] using h
  | .str s, v, h => by simpa [Rep] using h
  | .tup xs, v, h => by
    rw [Rep] at h ⊢
    obtain ⟨a, vs, h1, h2, h3⟩ := h
    exact ⟨a, vs, h1, same_sqT e h2, Reps.mono e xs vs h3⟩
  | .lst xs, v, h => by
    rw [Rep] at h ⊢
    obtain ⟨a, vs, h1, h2, h3⟩ := h
    exact ⟨a, vs, h1, e _ _ h2, Reps.mono e xs vs h3⟩
  | .rol xs, v, h => by
    rw [Rep] at h ⊢
    obtain ⟨a, vs, h1, h2, h3⟩ := h
    exact ⟨a, vs, h1, e.seq h2, Reps.mono e xs vs h3⟩
  | .dct kvs, v, h => by
    rw [Rep] at h ⊢
    obtain ⟨a, vs, h1, h2, h3⟩ := h
    exact ⟨a, vs, h1, e _ _ h2, RepK.mono e kvs vs h3⟩
  | .obj c fs, v, h => by
    rw [Rep] at h ⊢
    obtain ⟨a, dx, vs, h1, h2, h3⟩ := h
    exact ⟨a, dx, vs, h1, e _ _ h2, RepF.mono e fs vs h3⟩
  | .cls c, v, h => by simpa [Rep] using h
  | .dn kvs, v, h => by
    rw [Rep] at h ⊢
    obtain ⟨a, xs, h1, h2, h3⟩ := h
    exact ⟨a, xs, h1, h2.mono e, RepN.mono e kvs xs h3⟩
theorem RepN.mono (e : Same Z Z') : ∀ (ps : List (P × P)) (vs : List NE), RepN K Z ps vs → RepN K Z' ps vs
  | [], vs, h => by simpa [RepN] using h
  | (k, p) :: ps, vs, h => by
    rw [RepN] at h ⊢
    obtain ⟨nk, ka, u, v, ws, h1, h2, h3, h4, h5, h6, h7⟩ := h
    exact ⟨nk, ka, u, v, ws, h1, h2, h3, Rep.mono e k _ h4, h5, Rep.mono e p v h6, RepN.mono e ps ws h7⟩
theorem Reps.mono (e : Same Z Z') : ∀ (ps : List P) (vs : List V), Reps K Z ps vs → Reps K Z' ps vs
  | [], vs, h => by simpa [Reps] using h
  | p :: ps, vs, h => by
    rw [Reps] at h ⊢
    obtain ⟨v, ws, h1, h2, h3⟩ := h
    exact ⟨v, ws, h1, Rep.mono e p v h2, Reps.mono e ps ws h3⟩
theorem RepK.mono (e : Same Z Z') : ∀ (ps : List (Key × P)) (vs : List (Key × V)), RepK K Z ps vs → RepK K Z' ps vs
  | [], vs, h => by simpa [RepK] using h
  | (k, p) :: ps, vs, h => by
    rw [RepK] at h ⊢
    obtain ⟨v, ws, h1, h2, h3⟩ := h
    exact ⟨v, ws, h1, Rep.mono e p v h2, RepK.mono e ps ws h3⟩
theorem RepF.mono (e : Same Z Z') : ∀ (ps : List (Str × P)) (vs : List (Str × V)), RepF K Z ps vs → RepF K Z' ps vs
  | [], vs, h => by simpa [RepF] using h
  | (k, p) :: ps, vs, h => by
    rw [RepF] at h ⊢
    obtain ⟨v, ws, h1, h2, h3⟩ := h
    exact ⟨v, ws, h1, Rep.mono e p v h2, RepF.mono e ps ws h3⟩
end
theorem RepD.mono (e : Same Z Z') (hp : ∃ ψ, φ' = φ ++ ψ) {d : D} {v : V} (h : RepD K Z φ d v) : RepD K Z' φ' d v := by
  cases d with
  | fz p => exact Rep.mono e p v h
  | cell n =>
    obtain ⟨a, h1, h2⟩ := h
    obtain ⟨psi, rfl⟩ := hp
    obtain ⟨hl, _⟩ := List.getElem?_eq_some_iff.mp h1
    exact ⟨a, by rw [List.getElem?_append_left hl]; exact h1, h2⟩
theorem RepDs.mono (e : Same Z Z') (hp : ∃ ψ, φ' = φ ++ ψ) : ∀ {ds : List D} {vs : List V}, RepDs K Z φ ds vs → RepDs K Z' φ' ds vs
  | [], vs, h => h
  | d :: ds, vs, h => by
    obtain ⟨v, ws, h1, h2, h3⟩ := h
    exact ⟨v, ws, h1, h2.mono e hp, RepDs.mono e hp h3⟩
theorem RepDF.mono (e : Same Z Z') (hp : ∃ ψ, φ' = φ ++ ψ) : ∀ {ds : List (Str × D)} {vs : List (Str × V)}, RepDF K Z φ ds vs → RepDF K Z' φ' ds vs
  | [], vs, h => h
  | (k, d) :: ds, vs, h => by
    obtain ⟨v, ws, h1, h2, h3⟩ := h
    exact ⟨v, ws, h1, h2.mono e hp, RepDF.mono e hp h3⟩
theorem Step.app (s : Step Z φ H Z' φ' H') : ∃ ψ, φ' = φ ++ ψ := let ⟨p, h, _⟩ := s.pre; ⟨p, h⟩
theorem Slots.mono (s : Step Z φ H Z' φ' H') {η : Et} {σ : St} (h : Slots K Z φ η σ) : Slots K Z' φ' η σ :=
  ⟨h.len, fun i d e => let ⟨v, h1, h2⟩ := h.at_ i d e; ⟨v, h1, h2.mono s.hz s.app⟩⟩
theorem Slots.set {η : Et} {σ : St} (h : Slots K Z φ η σ) {i : Nat} {d : D} {v : V} (hr : RepD K Z φ d v) : Slots K Z φ (η.set i (some d)) (σ.set i (some v)) := by
  refine ⟨by simp [h.len], fun j e hj => ?_⟩
  by_cases hi : i = j
  · subst hi
    by_cases hl : i < η.length
    · rw [List.getElem?_set_self hl] at hj
      cases hj
      exact ⟨v, by rw [List.getElem?_set_self (by rw [← h.len]; exact hl)], hr⟩
    · rw [List.getElem?_eq_none (by simpa using hl)] at hj; cases hj
  · rw [List.getElem?_set_ne hi] at hj
    rw [List.getElem?_set_ne hi]
    exact h.at_ j e hj
/-- what is read of a store's value -/
def peek (st : Sr) : D → Option P
  | .fz p => some p
  | .cell n => match st[n]? with
    | some (.lst xs) => some (.lst xs)
    | some (.dct kvs) => some (.dct kvs)
    | some (.frz p) => some p
    | _ => none
theorem Reps.length : ∀ {ps : List P} {vs : List V}, Reps K Z ps vs → ps.length = vs.length
  | [], vs, h => by rw [Reps] at h; subst h; rfl
  | p :: ps, vs, h => by
    rw [Reps] at h
    obtain ⟨v, ws, rfl, _, h3⟩ := h
    simp [Reps.length h3]
theorem Reps.get : ∀ {ps : List P} {vs : List V} {i : Nat} {p : P}, Reps K Z ps vs → ps[i]? = some p → ∃ v, vs[i]? = some v ∧ Rep K Z p v
  | [], vs, i, p, h, e => by simp at e
  | q :: ps, vs, i, p, h, e => by
    rw [Reps] at h
    obtain ⟨v, ws, rfl, h2, h3⟩ := h
    cases i with
    | zero => simp at e; subst e; exact ⟨v, rfl, h2⟩
    | succ i => simpa using Reps.get h3 (by simpa using e)
theorem Reps.append : ∀ {ps qs : List P} {vs ws : List V}, Reps K Z ps vs → Reps K Z qs ws → Reps K Z (ps ++ qs) (vs ++ ws)
  | [], qs, vs, ws, h, g => by rw [Reps] at h; subst h; exact g
  | p :: ps, qs, vs, ws, h, g => by
    rw [Reps] at h
    obtain ⟨v, us, rfl, h2, h3⟩ := h
    show Reps K Z (p :: (ps ++ qs)) (v :: (us ++ ws))
    rw [Reps]
    exact ⟨v, us ++ ws, rfl, h2, h3.append g⟩
theorem Reps.one {p : P} {v : V} (h : Rep K Z p v) : Reps K Z [p] [v] := by
  rw [Reps]; exact ⟨v, [], rfl, h, by rw [Reps]⟩
theorem Reps.nil : Reps K Z [] [] := by rw [Reps]
theorem Reps.cons {p : P} {ps : List P} {v : V} {vs : List V} (h : Rep K Z p v) (t : Reps K Z ps vs) : Reps K Z (p :: ps) (v :: vs) := by
  rw [Reps]; exact ⟨v, vs, rfl, h, t⟩
theorem dat_lst {xs : List V} : Dat (.lst xs) := ⟨(by rintro (⟨_, z⟩ | ⟨_, z⟩) <;> cases z), fun _ z => (nomatch z)⟩
theorem dat_tup {xs : List V} : Dat (.tup xs) := ⟨(by rintro (⟨_, z⟩ | ⟨_, z⟩) <;> cases z), fun _ z => (nomatch z)⟩
theorem dat_dK {xs : List (Key × V)} : Dat (.dK xs) := ⟨(by rintro (⟨_, z⟩ | ⟨_, z⟩) <;> cases z), fun _ z => (nomatch z)⟩
theorem dat_frz {o : Obj} {u : HO} : Dat (.frz o u) := ⟨(by rintro (⟨_, z⟩ | ⟨_, z⟩) <;> cases z), fun _ z => (nomatch z)⟩
theorem dat_ins {C dx : Addr} {xs : List (Str × V)} : Dat (.ins C dx xs) := ⟨(by rintro (⟨_, z⟩ | ⟨_, z⟩) <;> cases z), fun _ z => (nomatch z)⟩
theorem tabs_upd {T : List (Addr × Str)} {a : Addr} {o : HO} (t : LamX.Tabs T H) (ha : ∀ u, H a = some u → Dat u) : LamX.Tabs T (upd H a o) := fun p hp => by
  obtain ⟨ps, h1, h2, h3⟩ := t p hp
  refine ⟨ps, by rw [upd_ne (by rintro rfl; exact (ha _ h1).1 (.inl ⟨ps, rfl⟩))]; exact h1, h2, fun pos cv hc => ?_⟩
  obtain ⟨c, e1, e2⟩ := h3 pos cv hc
  exact ⟨c, e1, by rw [upd_ne (by rintro rfl; exact dat_code (ha _ e2))]; exact e2⟩
theorem RelC.keep {a : Addr} {c : Ct} (hz : Same Z Z') (hp : ∃ ψ, φ' = φ ++ ψ) (hn : (∀ p, c ≠ .frz p) → Z' a = none) (hh : ∀ o, H a = some o → Dat o → H' a = some o) (h : RelC K Z φ H a c) : RelC K Z' φ' H' a c := by
  cases c with
  | lst xs => obtain ⟨_, vs, h1, h2⟩ := h; exact ⟨hn (by intro _ z; cases z), vs, hh _ h1 dat_lst, Reps.mono hz _ _ h2⟩
  | dct kvs => obtain ⟨_, vs, h1, h2⟩ := h; exact ⟨hn (by intro _ z; cases z), vs, hh _ h1 dat_dK, RepK.mono hz _ _ h2⟩
  | obj c fs => obtain ⟨_, dx, vs, h1, h2⟩ := h; exact ⟨hn (by intro _ z; cases z), dx, vs, hh _ h1 dat_ins, h2.mono hz hp⟩
  | frz p => obtain ⟨h1, o, h2, h3⟩ := h; exact ⟨Rep.mono hz _ _ h1, o, hh _ h2 h3, h3⟩
  | lsD xs => obtain ⟨_, vs, h1, h2⟩ := h; exact ⟨hn (by intro _ z; cases z), vs, hh _ h1 dat_lst, h2.mono hz hp⟩
  | tuD xs => obtain ⟨_, vs, h1, h2⟩ := h; exact ⟨hn (by intro _ z; cases z), vs, hh _ h1 dat_tup, h2.mono hz hp⟩
  | ldct kvs => obtain ⟨_, o, vs, h1, h2⟩ := h; exact ⟨hn (by intro _ z; cases z), o, vs, hh _ h1 dat_frz, RepK.mono hz _ _ h2⟩
  | dn kvs =>
    obtain ⟨_, vs, h1, h2⟩ := h
    obtain ⟨o, e1, e2, e3⟩ := h1.dat
    exact ⟨hn (by intro _ z; cases z), vs, e3 _ (hh _ e1 e2), RepN.mono hz _ _ h2⟩
theorem RelC.at2 {a : Addr} {c : Ct} (h : RelC K Z φ H a c) : ∃ o, H a = some o ∧ Dat o := by
  cases c with
  | lst xs => obtain ⟨_, vs, h1, _⟩ := h; exact ⟨_, h1, dat_lst⟩
  | dct kvs => obtain ⟨_, vs, h1, _⟩ := h; exact ⟨_, h1, dat_dK⟩
  | obj c fs => obtain ⟨_, dx, vs, h1, _⟩ := h; exact ⟨_, h1, dat_ins⟩
  | frz p => exact h.2
  | lsD xs => obtain ⟨_, vs, h1, _⟩ := h; exact ⟨_, h1, dat_lst⟩
  | tuD xs => obtain ⟨_, vs, h1, _⟩ := h; exact ⟨_, h1, dat_tup⟩
  | ldct xs => obtain ⟨_, _, vs, h1, _⟩ := h; exact ⟨_, h1, dat_frz⟩
  | dn xs => obtain ⟨_, vs, h1, _⟩ := h; obtain ⟨o, e1, e2, _⟩ := h1.dat; exact ⟨o, e1, e2⟩
theorem RelC.at_ {a : Addr} {c : Ct} (h : RelC K Z φ H a c) : ∃ o, H a = some o := let ⟨o, e, _⟩ := h.at2; ⟨o, e⟩
theorem RelC.free {a : Addr} {c : Ct} (h : RelC K Z φ H a c) (hc : ∀ p, c ≠ .frz p) : Z a = none := by
  cases c with
  | lst xs => exact h.1
  | dct kvs => exact h.1
  | obj c fs => exact h.1
  | frz p => exact absurd rfl (hc p)
  | lsD xs => exact h.1
  | tuD xs => exact h.1
  | ldct xs => exact h.1
  | dn xs => exact h.1
theorem RS.at_ {st : Sr} (h : RS K Z φ st H) {i : Nat} {a : Addr} (e : φ[i]? = some a) : ∃ c, st[i]? = some c ∧ RelC K Z φ H a c := by
  have hl : i < st.length := by rw [← h.len]; exact (List.getElem?_eq_some_iff.mp e).1
  exact ⟨_, List.getElem?_eq_getElem hl, h.cells i a _ e (List.getElem?_eq_getElem hl)⟩
theorem RS.some_ {st : Sr} (h : RS K Z φ st H) {a : Addr} (e : a ∈ φ) : ∃ o, H a = some o := by
  obtain ⟨i, hi⟩ := List.getElem?_of_mem e
  obtain ⟨c, _, r⟩ := h.at_ hi
  exact r.at_
/-- the cell n gets another content, its object another one -/
theorem RS.write {st : Sr} (h : RS K Z φ st H) {n : Nat} {a : Addr} {c : Ct} {o : HO} (e : φ[n]? = some a) (hz : Z a = none) (hc : RelC K Z φ (upd H a o) a c) (hk : ∀ q u, H a ≠ some (.frz q u)) : RS K Z φ (st.set n c) (upd H a o) ∧ Step Z φ H Z φ (upd H a o) := by
  have ha : a ∈ φ := List.mem_of_getElem? e
  refine ⟨⟨fun b u hb => ?_, by simp [h.len], h.nd, fun i b c' hi hc' => ?_, tabs_upd h.tb (fun u hu => ?_), h.zd⟩, ⟨Same.refl _, ⟨[], by simp, by simp⟩, fun b u hb hn _ => ?_, fun b hb => .inl hb, fun b hb => ?_, fun b q u hb => by rw [upd_ne (by rintro rfl; exact hk q u hb)]; exact hb⟩⟩
  · rw [upd_ne (by rintro rfl; rw [hz] at hb; cases hb)]; exact h.same b u hb
  · by_cases hin : i = n
    · subst hin
      rw [e] at hi; cases hi
      have hl : i < st.length := by rw [← h.len]; exact (List.getElem?_eq_some_iff.mp e).1
      rw [List.getElem?_set_self hl] at hc'; cases hc'
      exact hc
    · rw [List.getElem?_set_ne (Ne.symm hin)] at hc'
      have nb : b ≠ a := by
        rintro rfl
        exact hin (nodup_ix' h.nd hi e)
      exact (h.cells i b c' hi hc').keep (Same.refl _) ⟨[], by simp⟩ (fun q => (h.cells i b c' hi hc').free q) fun u hu _ => by rw [upd_ne nb]; exact hu
  · obtain ⟨c0, hc0, r0⟩ := h.at_ e
    obtain ⟨u', e1, e2⟩ := r0.at2
    rw [hu] at e1; cases e1; exact e2
  · rw [upd_ne (by rintro rfl; exact hn ha)]; exact hb
  · by_cases q : b = a
    · subst q
      obtain ⟨u', e1, e2⟩ := hc.at2
      exact (hb.no e1 e2.1).elim
    · exact fun o ho => hb o (by rw [upd_ne q]; exact ho)
where
  nodup_ix' {N : List Addr} (hN : N.Nodup) {i j : Nat} {x : Addr} (a : N[i]? = some x) (b : N[j]? = some x) : i = j := by
    obtain ⟨h1, e1⟩ := List.getElem?_eq_some_iff.mp a
    obtain ⟨h2, e2⟩ := List.getElem?_eq_some_iff.mp b
    exact (List.getElem_inj hN).mp (e1.trans e2.symm)
/-- a new cell at the end -/
theorem RS.new {st : Sr} (h : RS K Z φ st H) {a : Addr} {c : Ct} {o : HO} (ha : H a = none) (hc : Z a = none → RelC K Z (φ ++ [a]) (upd H a o) a c) : RS K Z (φ ++ [a]) (st ++ [c]) (upd H a o) ∧ Step Z φ H Z (φ ++ [a]) (upd H a o) := by
  have hz : Z a = none := h.same.free ha
  have na : a ∉ φ := fun hm => by obtain ⟨u, hu⟩ := h.some_ hm; rw [ha] at hu; cases hu
  refine ⟨⟨fun b u hb => ?_, by simp [h.len], ?_, fun i b c' hi hc' => ?_, tabs_upd h.tb (fun u hu => by rw [ha] at hu; cases hu), h.zd⟩, ⟨Same.refl _, ⟨[a], rfl, by simpa using Fre.of ha⟩, fun b u hb hn _ => ?_, fun b hb => .inl hb, fun b hb => ?_, fun b q u hb => by rw [upd_ne (by rintro rfl; rw [ha] at hb; cases hb)]; exact hb⟩⟩
  · rw [upd_ne (by rintro rfl; rw [hz] at hb; cases hb)]; exact h.same b u hb
  · exact List.nodup_append.mpr ⟨h.nd, by simp, fun x hx y hy => by simp at hy; subst hy; rintro rfl; exact na hx⟩
  · by_cases hl : i < φ.length
    · rw [List.getElem?_append_left hl] at hi
      rw [List.getElem?_append_left (by rw [← h.len]; exact hl)] at hc'
      have nb : b ≠ a := by rintro rfl; exact na (List.mem_of_getElem? hi)
      exact (h.cells i b c' hi hc').keep (Same.refl _) ⟨[a], rfl⟩ (fun q => (h.cells i b c' hi hc').free q) fun u hu _ => by rw [upd_ne nb]; exact hu
    · rw [List.getElem?_append_right (by omega)] at hi
      rw [List.getElem?_append_right (by rw [← h.len]; omega), ← h.len] at hc'
      cases hk : i - φ.length with
      | zero => rw [hk] at hi hc'; simp at hi hc'; subst hi hc'; exact hc hz
      | succ k => rw [hk] at hi; simp at hi
  · rw [upd_ne (by rintro rfl; rw [ha] at hb; cases hb)]; exact hb
  · by_cases q : b = a
    · subst q; exact .of ha
    · exact fun o ho => hb o (by rw [upd_ne q]; exact ho)
/-- a new frozen thing -/
theorem RS.newZ {st : Sr} (h : RS K Z φ st H) {a : Addr} {o : HO} (ha : H a = none) (hd : ∀ ps, o ≠ .tbl ps := by intro _ z; cases z) : RS K (upd Z a o) φ st (upd H a o) ∧ Step Z φ H (upd Z a o) φ (upd H a o) := by
  have hz : Z a = none := h.same.free ha
  have na : a ∉ φ := fun hm => by obtain ⟨u, hu⟩ := h.some_ hm; rw [ha] at hu; cases hu
  have sz : Same Z (upd Z a o) := fun b u hb => by rw [upd_ne (by rintro rfl; rw [hz] at hb; cases hb)]; exact hb
  refine ⟨⟨fun b u hb => ?_, h.len, h.nd, fun i b c' hi hc' => ?_, tabs_upd h.tb (fun u hu => by rw [ha] at hu; cases hu), fun b ps z => ?_⟩, ⟨sz, ⟨[], by simp, by simp⟩, fun b u hb hn _ => ?_, fun b hb => ?_, fun b hb => ?_, fun b q u hb => by rw [upd_ne (by rintro rfl; rw [ha] at hb; cases hb)]; exact hb⟩⟩
  · by_cases q : b = a
    · subst q; rw [upd_same] at hb ⊢; exact hb
    · rw [upd_ne q] at hb ⊢; exact h.same b u hb
  · have nb : b ≠ a := by rintro rfl; exact na (List.mem_of_getElem? hi)
    exact (h.cells i b c' hi hc').keep sz ⟨[], by simp⟩ (fun q => by rw [upd_ne nb]; exact (h.cells i b c' hi hc').free q) fun u hu _ => by rw [upd_ne nb]; exact hu
  · by_cases q : b = a
    · subst q; rw [upd_same] at z; cases z; exact hd ps rfl
    · rw [upd_ne q] at z; exact h.zd b ps z
  · rw [upd_ne (by rintro rfl; rw [ha] at hb; cases hb)]; exact hb
  · by_cases q : b = a
    · subst q; exact .inr (.inl (.of ha))
    · rw [upd_ne q] at hb; exact .inl hb
  · by_cases q : b = a
    · subst q; exact .of ha
    · exact fun o ho => hb o (by rw [upd_ne q]; exact ho)
end
end M
end
section
set_option Elab.async false
set_option linter.all false
set_option maxRecDepth 100000
set_option maxHeartbeats 0
namespace M
open PySem L2
def R.bind {α β : Type} (r : R α) (k : α → R β) : R β := match r with
  | .ok a => k a
  | .exc c fs η st => .exc c fs η st
  | .stuck => .stuck
section
variable (K : PySem.W.Frag) (W : WX)
def AfX (Z : Hp) (φ : List Addr) (H : Hp) (c : Str) (fs : Option (List (Str × P))) (η : Et) (st : Sr) : Prop :=
  ∀ σ' H' Z' φ', Step Z φ H Z' φ' H' → RS K Z' φ' st H' → Slots K Z' φ' η σ' → match fs with
    | none => W (.ref (He.ga K c)) none σ' H'
    | some fs => ∀ dx gs, H' dx = some (.xd gs) → RepF K Z' fs gs → W (.ref (He.ga K c)) (some dx) σ' H'
def Af {α : Type} (Z : Hp) (φ : List Addr) (H : Hp) (r : R α) (G : α → Hp → List Addr → Hp → Prop) : Prop := match r with
  | .ok a => ∀ Z' φ' H', Step Z φ H Z' φ' H' → G a Z' φ' H'
  | .exc c fs η st => AfX K W Z φ H c fs η st
  | .stuck => False
def GE (Q : VK) : (D × Sr) → Hp → List Addr → Hp → Prop := fun r Z' φ' H' => RS K Z' φ' r.2 H' → ∀ v, RepD K Z' φ' r.1 v → Q v H'
def GA (Q : List V → Hp → Prop) : (List D × Sr) → Hp → List Addr → Hp → Prop := fun r Z' φ' H' => RS K Z' φ' r.2 H' → ∀ vs, RepDs K Z' φ' r.1 vs → Q vs H'
def GT (Q : Bool → Hp → Prop) : (Bool × Sr) → Hp → List Addr → Hp → Prop := fun r Z' φ' H' => RS K Z' φ' r.2 H' → Q r.1 H'
def GS (E : Ends) : (Fl × Et × Sr) → Hp → List Addr → Hp → Prop := fun r Z' φ' H' => RS K Z' φ' r.2.2 H' → match r.1 with
  | .nx => ∀ σ', Slots K Z' φ' r.2.1 σ' → E.nx σ' H'
  | .bk => ∀ σ', Slots K Z' φ' r.2.1 σ' → E.bk σ' H'
  | .ct => ∀ σ', Slots K Z' φ' r.2.1 σ' → E.ct σ' H'
  | .rt d => ∀ v, RepD K Z' φ' d v → E.rt v H'
def Rd4 {α : Type} (f : Et → Sr → R α) (σ : St) (H : Hp) (G : α → Hp → List Addr → Hp → Prop) : Prop :=
  ∃ Z φ η st, RS K Z φ st H ∧ Slots K Z φ η σ ∧ Af K W Z φ H (f η st) G
def tE (f : DE) : TE := fun σ H Q => Rd4 K W f σ H (GE K Q)
def tA (f : DA) : TA := fun σ H Q => Rd4 K W f σ H (GA K Q)
def tT (f : DT) : TT := fun σ H Q => Rd4 K W f σ H (GT K Q)
def tS (f : DS) : TS := fun E σ H => Rd4 K W f σ H (GS K E)
end
section
variable {K : PySem.W.Frag} {W : WX} {Z Z1 : Hp} {φ φ1 : List Addr} {H H1 : Hp} {α β : Type}
theorem Af.later {r : R α} {G : α → Hp → List Addr → Hp → Prop} (s : Step Z φ H Z1 φ1 H1) (h : Af K W Z φ H r G) : Af K W Z1 φ1 H1 r G := by
  cases r with
  | ok a => exact fun Z' φ' H' t => h Z' φ' H' (s.trans t)
  | exc c fs η st => exact fun σ' H' Z' φ' t => h σ' H' Z' φ' (s.trans t)
  | stuck => exact h
theorem Af.mono {r : R α} {G G' : α → Hp → List Addr → Hp → Prop} (i : ∀ a Z' φ' H', Step Z φ H Z' φ' H' → G a Z' φ' H' → G' a Z' φ' H') (h : Af K W Z φ H r G) : Af K W Z φ H r G' := by
  cases r with
  | ok a => exact fun Z' φ' H' t => i _ _ _ _ t (h Z' φ' H' t)
  | exc c fs η st => exact h
  | stuck => exact h
theorem Af.bind {r : R α} {k : α → R β} {G : β → Hp → List Addr → Hp → Prop} (h : Af K W Z φ H (r.bind k) G) : Af K W Z φ H r (fun a Z1 φ1 H1 => Af K W Z1 φ1 H1 (k a) G) := by
  cases r with
  | ok a => exact fun Z' φ' H' t => Af.later t h
  | exc c fs η st => exact h
  | stuck => exact h
theorem Af.here {d : D} {st : Sr} {Q : VK} {v : V} (h : Af K W Z φ H (.ok (d, st)) (GE K Q)) (rs : RS K Z φ st H) (r : RepD K Z φ d v) : Q v H := h _ _ _ .refl rs v r
theorem Af.hereT {b : Bool} {st : Sr} {Q : Bool → Hp → Prop} (h : Af K W Z φ H (.ok (b, st)) (GT K Q)) (rs : RS K Z φ st H) : Q b H := h _ _ _ .refl rs
/-- a new cell's object is laid -/
theorem Af.cell {st : Sr} {c : Ct} {o : HO} {Q : VK} {p : Addr} (h : Af K W Z φ H (.ok (.cell st.length, st ++ [c])) (GE K Q)) (rs : RS K Z φ st H) (hp : H p = none) (hc : Z p = none → RelC K Z (φ ++ [p]) (upd H p o) p c) : Q (.ref p) (upd H p o) := by
  obtain ⟨rs', s⟩ := rs.new hp hc
  exact h _ _ _ s rs' _ ⟨p, by rw [← rs.len]; simp, rfl⟩
theorem Af.newZ {st : Sr} {d : P} {o : HO} {Q : VK} {p : Addr} (h : Af K W Z φ H (.ok (.fz d, st)) (GE K Q)) (rs : RS K Z φ st H) (hp : H p = none) (hc : Same Z (upd Z p o) → Rep K (upd Z p o) d (.ref p)) (hd : ∀ ps, o ≠ .tbl ps := by intro _ z; cases z) : Q (.ref p) (upd H p o) := by
  obtain ⟨rs', s⟩ := rs.newZ (o := o) hp hd
  exact h _ _ _ s rs' _ (hc s.hz)
/-- a list cell from items that stand in the heap -/
theorem Af.lst {st : Sr} {xs : List P} {vs : List V} {Q : VK} {p : Addr} (h : Af K W Z φ H (.ok (.cell st.length, st ++ [.lst xs])) (GE K Q)) (rs : RS K Z φ st H) (hp : H p = none) (r : Reps K Z xs vs) : Q (.ref p) (upd H p (.lst vs)) :=
  h.cell rs hp fun hz => ⟨hz, vs, upd_same, r⟩
end
section
variable {X : Cx} {W : WX}
theorem _root_.L2.PE.to {e : Expr} {t t' : TE} (h : PE X e t) (i : ∀ σ H Q, t' σ H Q → t σ H Q) : PE X e t' := ⟨fun pins s σ H Q I q => h.run pins s σ H Q I (i σ H Q q)⟩
theorem _root_.L2.PT.to {e : Expr} {t t' : TT} (h : PT X e t) (i : ∀ σ H Q, t' σ H Q → t σ H Q) : PT X e t' := ⟨fun pins s σ H Q I q => h.run pins s σ H Q I (i σ H Q q)⟩
theorem _root_.L2.PW.to {e : Expr} {t t' : TT} (h : PW X e t) (i : ∀ σ H Q, t' σ H Q → t σ H Q) : PW X e t' := ⟨fun wh pins s σ H Q I q => h.run wh pins s σ H Q I (i σ H Q q)⟩
theorem _root_.L2.PA.to {e : List Expr} {t t' : TA} (h : PA X e t) (i : ∀ σ H Q, t' σ H Q → t σ H Q) : PA X e t' := ⟨fun pos pins s σ H Q I q => h.run pos pins s σ H Q I (i σ H Q q)⟩
theorem _root_.L2.PS.to {e : Stmt} {t t' : TS} (h : PS X e t) (i : ∀ D σ H, t' D σ H → t D σ H) : PS X e t' := ⟨fun pins s σ H D I q => h.run pins s σ H D I (i D σ H q)⟩
theorem _root_.L2.PSs.to {e : List Stmt} {t t' : TS} (h : PSs X e t) (i : ∀ D σ H, t' D σ H → t D σ H) : PSs X e t' := ⟨fun pins s σ H D I q => h.run pins s σ H D I (i D σ H q)⟩
variable {K : PySem.W.Frag}
end
def dVar (i : Nat) : DE := fun η st => match η[i]? with
  | some (some d) => .ok (d, st)
  | _ => .stuck
def dK (p : P) : DE := fun _ st => .ok (.fz p, st)
def dBin (o : D → D → Sr → R (D × Sr)) (f g : DE) : DE := fun η st => (f η st).bind fun a => (g η a.2).bind fun b => o a.1 b.1 b.2
def dUn (o : D → Sr → R (D × Sr)) (f : DE) : DE := fun η st => (f η st).bind fun a => o a.1 a.2
def dNil : DA := fun _ st => .ok ([], st)
def dCons (f : DE) (g : DA) : DA := fun η st => (f η st).bind fun a => (g η a.2).bind fun b => .ok (a.1 :: b.1, b.2)
def dAp (o : List D → Sr → R (D × Sr)) (g : DA) : DE := fun η st => (g η st).bind fun a => o a.1 a.2
/-- an operation on values by the store -/
def rM (K : PySem.W.Frag) (W : WX) (o : D → D → Sr → R (D × Sr)) : R2 := fun x y H Q => ∃ d e, ∃ Z φ st, RS K Z φ st H ∧ RepD K Z φ d x ∧ RepD K Z φ e y ∧ Af K W Z φ H (o d e st) (GE K Q)
def rM1 (K : PySem.W.Frag) (W : WX) (o : D → Sr → R (D × Sr)) : V → Hp → VK → Prop := fun x H Q => ∃ d, ∃ Z φ st, RS K Z φ st H ∧ RepD K Z φ d x ∧ Af K W Z φ H (o d st) (GE K Q)
def rMA (K : PySem.W.Frag) (W : WX) (o : List D → Sr → R (D × Sr)) : List V → Hp → VK → Prop := fun xs H Q => ∃ ds, ∃ Z φ st, RS K Z φ st H ∧ RepDs K Z φ ds xs ∧ Af K W Z φ H (o ds st) (GE K Q)
def rMM (K : PySem.W.Frag) (W : WX) (o : D → List D → Sr → R (D × Sr)) : V → List V → Hp → VK → Prop := fun x xs H Q => ∃ d ds, ∃ Z φ st, RS K Z φ st H ∧ RepD K Z φ d x ∧ RepDs K Z φ ds xs ∧ Af K W Z φ H (o d ds st) (GE K Q)
section
variable {X : Cx} {W : WX} {a b e : Expr} {es : List Expr} {pos : Pos} {f g : DE} {fs : DA}
theorem de_var (i : Nat) {x : Str} (hN : X.N[i]? = some x := by rfl) (hv : Vis X.env.scope x := by first | exact Or.inl rfl | exact Or.inr (Or.inl rfl) | exact Or.inr (Or.inr rfl)) (hd : (x == ("__debug__" : Str)) = false := by decide)
    (hcd : (x == ("__classdict__" : Str)) = false := by decide) : PE X (.Name x pos) (tE X.K W (dVar i)) := by
  refine (pe_var (i := i) hN hv hd hcd).to fun σ H Q h => ?_
  obtain ⟨Z, φ, η, st, rs, sl, af⟩ := h
  unfold dVar at af
  split at af
  · rename_i d e
    obtain ⟨v, h1, h2⟩ := sl.at_ i d e
    exact ⟨v, h1, af.here rs h2⟩
  · exact af.elim
theorem de_int {i : Int} {j} : PE X (.Constant (.int i) j pos) (tE X.K W (dK (.int i))) := pe_int.to fun σ H Q ⟨Z, φ, η, st, rs, sl, af⟩ => af.here rs (by show Rep _ _ _ _; rw [Rep])
theorem de_bl {i : Bool} {j} : PE X (.Constant (.bool i) j pos) (tE X.K W (dK (.bl i))) := pe_bl.to fun σ H Q ⟨Z, φ, η, st, rs, sl, af⟩ => af.here rs (by show Rep _ _ _ _; rw [Rep])
theorem de_str {i : Str} {j} : PE X (.Constant (.str i) j pos) (tE X.K W (dK (.str i))) := pe_str.to fun σ H Q ⟨Z, φ, η, st, rs, sl, af⟩ => af.here rs (by show Rep _ _ _ _; rw [Rep])
theorem de_non {j} : PE X (.Constant .none j pos) (tE X.K W (dK .non)) := pe_non.to fun σ H Q ⟨Z, φ, η, st, rs, sl, af⟩ => af.here rs (by show Rep _ _ _ _; rw [Rep])
theorem de_bin {op : Operator} {o : D → D → Sr → R (D × Sr)} (ho : OpR X (binaryOp op) (rM X.K W o)) (ha : PE X a (tE X.K W f)) (hb : PE X b (tE X.K W g)) : PE X (.BinOp a op b pos) (tE X.K W (dBin o f g)) := by
  refine (pe_op ho ha hb).to fun σ H Q h => ?_
  obtain ⟨Z, φ, η, st, rs, sl, af⟩ := h
  refine ⟨Z, φ, η, st, rs, sl, af.bind.mono fun a Z' φ' H' t g' rs' v r => ?_⟩
  refine ⟨Z', φ', η, a.2, rs', sl.mono t, g'.bind.mono fun b Z2 φ2 H2 t2 g2 rs2 u r2 => ?_⟩
  exact ⟨a.1, b.1, Z2, φ2, b.2, rs2, r.mono t2.hz t2.app, r2, g2⟩
theorem de_un {op : UnaryOp} {o : D → Sr → R (D × Sr)} (ho : UnR X (unaryOp op) (rM1 X.K W o)) (ha : PE X a (tE X.K W f)) : PE X (.UnaryOp op a pos) (tE X.K W (dUn o f)) := by
  refine (pe_un ho ha).to fun σ H Q h => ?_
  obtain ⟨Z, φ, η, st, rs, sl, af⟩ := h
  refine ⟨Z, φ, η, st, rs, sl, af.bind.mono fun a Z' φ' H' t g' rs' v r => ?_⟩
  exact ⟨a.1, Z', φ', a.2, rs', r, g'⟩
theorem de_cmp {op : CmpOp} {o : D → D → Sr → R (D × Sr)} (ho : OpR X (compareOp op) (rM X.K W o)) (ha : PE X a (tE X.K W f)) (hb : PE X b (tE X.K W g)) (hm : behindInMarks op b = false := by first | exact nomark _ | rfl) : PE X (.Compare a [op] [b] pos) (tE X.K W (dBin o f g)) := by
  refine (pe_cmpR ho ha hb hm).to fun σ H Q h => ?_
  obtain ⟨Z, φ, η, st, rs, sl, af⟩ := h
  refine ⟨Z, φ, η, st, rs, sl, af.bind.mono fun a Z' φ' H' t g' rs' v r => ?_⟩
  refine ⟨Z', φ', η, a.2, rs', sl.mono t, g'.bind.mono fun b Z2 φ2 H2 t2 g2 rs2 u r2 => ?_⟩
  exact ⟨a.1, b.1, Z2, φ2, b.2, rs2, r.mono t2.hz t2.app, r2, g2⟩
theorem da_nil : PA X [] (tA X.K W dNil) := pa_nil.to fun σ H Q ⟨Z, φ, η, st, rs, sl, af⟩ => af _ _ _ .refl rs [] rfl
theorem da_cons (ha : PE X e (tE X.K W f)) (hr : PA X es (tA X.K W fs)) (hs : starEach (e :: es) X.env = (false, eval e X.env) :: starEach es X.env := by rfl) : PA X (e :: es) (tA X.K W (dCons f fs)) := by
  refine (pa_cons ha hr hs).to fun σ H Q h => ?_
  obtain ⟨Z, φ, η, st, rs, sl, af⟩ := h
  refine ⟨Z, φ, η, st, rs, sl, af.bind.mono fun a Z' φ' H' t g' rs' v r => ?_⟩
  refine ⟨Z', φ', η, a.2, rs', sl.mono t, g'.bind.mono fun b Z2 φ2 H2 t2 g2 rs2 us r2 => ?_⟩
  exact g2 _ _ _ .refl rs2 _ ⟨v, us, rfl, r.mono t2.hz t2.app, r2⟩
/-- f(e, ..), f a built-in function; a built-in class -/
theorem de_callB {id : String} {x : Str} {p : Pos} {o : List D → Sr → R (D × Sr)} (hc : CallR X (.builtin id) (rMA X.K W o)) (hg : Gl X x) (hm : X.mg x = none) (hv : bootBuiltins x = some (.builtin id)) (ha : PA X (e :: es) (tA X.K W fs)) (hn : x ≠ "__name__" := by decide) (hdb : (x == ("__debug__" : Str)) = false := by decide)
    (he : starEach (e :: es) X.env = (false, eval e X.env) :: starEach es X.env := by rfl) (hpl : (backTo pos (starEach es X.env)).any (·.1) = false := by rfl) : PE X (.Call (.Name x p) (e :: es) [] pos) (tE X.K W (dAp o fs)) := by
  refine (pe_callB hc hg hm hv ha hn hdb he hpl).to fun σ H Q h => ?_
  obtain ⟨Z, φ, η, st, rs, sl, af⟩ := h
  refine ⟨Z, φ, η, st, rs, sl, af.bind.mono fun a Z' φ' H' t g' rs' v r => ?_⟩
  exact ⟨a.1, Z', φ', a.2, rs', r, g'⟩
theorem de_callTy {T : String} {x : Str} {p : Pos} {o : List D → Sr → R (D × Sr)} (hc : CallR X (.type T) (rMA X.K W o)) (hg : Gl X x) (hm : X.mg x = none) (hv : bootBuiltins x = some (.type T)) (ha : PA X (e :: es) (tA X.K W fs)) (hn : x ≠ "__name__" := by decide) (hdb : (x == ("__debug__" : Str)) = false := by decide)
    (he : starEach (e :: es) X.env = (false, eval e X.env) :: starEach es X.env := by rfl) (hpl : (backTo pos (starEach es X.env)).any (·.1) = false := by rfl) : PE X (.Call (.Name x p) (e :: es) [] pos) (tE X.K W (dAp o fs)) := by
  refine (pe_callTy hc hg hm hv ha hn hdb he hpl).to fun σ H Q h => ?_
  obtain ⟨Z, φ, η, st, rs, sl, af⟩ := h
  refine ⟨Z, φ, η, st, rs, sl, af.bind.mono fun a Z' φ' H' t g' rs' v r => ?_⟩
  exact ⟨a.1, Z', φ', a.2, rs', r, g'⟩
end
end M
end
section
set_option Elab.async false
set_option linter.all false
set_option maxRecDepth 100000
set_option maxHeartbeats 0
namespace M
open PySem L2
def PkR (K : PySem.W.Frag) (Z H : Hp) : P → V → Prop
  | .non, v => v = .non
  | .bl b, v => v = .bl b
  | .int i, v => v = .int i
  | .str s, v => v = .str s
  | .tup xs, v => ∃ a vs, v = .ref a ∧ SqT K H a vs ∧ Reps K Z xs vs
  | .lst xs, v => ∃ a vs, v = .ref a ∧ H a = some (.lst vs) ∧ Reps K Z xs vs
  | .rol xs, v => ∃ a vs, v = .ref a ∧ SqL K H a vs ∧ Reps K Z xs vs
  | .dct kvs, v => ∃ a kws, v = .ref a ∧ H a = some (.dK kws) ∧ RepK K Z kvs kws
  | .obj c fs, v => ∃ a dx gs, v = .ref a ∧ H a = some (.ins (He.ga K c) dx gs) ∧ RepF K Z fs gs
  | .cls c, v => v = .ref (He.ga K c)
  | .dn kvs, v => ∃ a xs, v = .ref a ∧ DnAt H a xs ∧ RepN K Z kvs xs
section
variable {K : PySem.W.Frag} {Z H : Hp} {φ : List Addr}
theorem Rep.pk (e : Same Z H) {p : P} {v : V} (h : Rep K Z p v) : PkR K Z H p v := by
  cases p with
  | non => rw [Rep] at h; exact h
  | bl b => rw [Rep] at h; exact h
  | int b => rw [Rep] at h; exact h
  | str b => rw [Rep] at h; exact h
  | tup xs => rw [Rep] at h; obtain ⟨a, vs, h1, h2, h3⟩ := h; exact ⟨a, vs, h1, same_sqT e h2, h3⟩
  | lst xs => rw [Rep] at h; obtain ⟨a, vs, h1, h2, h3⟩ := h; exact ⟨a, vs, h1, e _ _ h2, h3⟩
  | rol xs => rw [Rep] at h; obtain ⟨a, vs, h1, h2, h3⟩ := h; exact ⟨a, vs, h1, e.seq h2, h3⟩
  | dct xs => rw [Rep] at h; obtain ⟨a, vs, h1, h2, h3⟩ := h; exact ⟨a, vs, h1, e _ _ h2, h3⟩
  | obj c xs => rw [Rep] at h; obtain ⟨a, dx, vs, h1, h2, h3⟩ := h; exact ⟨a, dx, vs, h1, e _ _ h2, h3⟩
  | cls c => rw [Rep] at h; exact h
  | dn kvs => rw [Rep] at h; obtain ⟨a, vs, h1, h2, h3⟩ := h; exact ⟨a, vs, h1, h2.mono e, h3⟩
theorem peek_pk {st : Sr} (h : RS K Z φ st H) {d : D} {p : P} {v : V} (e : peek st d = some p) (r : RepD K Z φ d v) : PkR K Z H p v := by
  cases d with
  | fz q => cases e; exact Rep.pk h.same r
  | cell n =>
    obtain ⟨a, h1, rfl⟩ := r
    obtain ⟨c, hc, rc⟩ := h.at_ h1
    unfold peek at e
    simp only [hc] at e
    cases c with
    | lst xs => cases e; obtain ⟨_, vs, h2, h3⟩ := rc; exact ⟨a, vs, rfl, h2, h3⟩
    | dct kvs => cases e; obtain ⟨_, vs, h2, h3⟩ := rc; exact ⟨a, vs, rfl, h2, h3⟩
    | obj c fs => cases e
    | lsD xs => cases e
    | tuD xs => cases e
    | ldct xs => cases e
    | dn xs => cases e
    | frz p' => cases e; exact Rep.pk h.same rc.1
end
mutual
def toPy : P → PyData
  | .non => .none
  | .bl b => .bool b
  | .int i => .int i
  | .str s => .str s
  | .tup xs => .tuple (toPys xs)
  | .lst xs => .list (toPys xs)
  | .rol xs => .list (toPys xs)
  | .dct _ => .dict []
  | .obj _ _ => .dict []
  | .cls _ => .dict []
  | .dn _ => .dict []
def toPys : List P → List PyData
  | [] => []
  | p :: ps => toPy p :: toPys ps
end
def eqP (p q : P) : Bool := PyData.eqv (toPy p) (toPy q)
def shP (p : P) : Bool := SeqAt.shaped (toPy p)
section
variable {K : PySem.W.Frag} {H : Hp}
mutual
theorem Rep.dp : ∀ (p : P) (v : V), (toPy p).canLay0 = true → Rep K H p v → Dp K H v (toPy p)
  | .non, v, _, h => by rw [Rep] at h; subst h; exact .non
  | .bl b, v, _, h => by rw [Rep] at h; subst h; exact .bl b
  | .int b, v, _, h => by rw [Rep] at h; subst h; exact .int b
  | .str b, v, _, h => by rw [Rep] at h; subst h; exact .str b
  | .tup xs, v, s, h => by rw [Rep] at h; obtain ⟨a, vs, rfl, h2, h3⟩ := h; exact .tup h2 (Reps.dp xs vs s h3)
  | .lst xs, v, s, h => by rw [Rep] at h; obtain ⟨a, vs, rfl, h2, h3⟩ := h; exact .lst (SqL.of h2) (Reps.dp xs vs s h3)
  | .rol xs, v, s, h => by rw [Rep] at h; obtain ⟨a, vs, rfl, h2, h3⟩ := h; exact .lst h2 (Reps.dp xs vs s h3)
  | .dct xs, v, s, h => by cases s
  | .obj c xs, v, s, h => by cases s
  | .cls c, v, s, h => by cases s
  | .dn c, v, s, h => by cases s
theorem Reps.dp : ∀ (ps : List P) (vs : List V), PyData.canLayAll0 (toPys ps) = true → Reps K H ps vs → DpAll K H vs (toPys ps)
  | [], vs, _, h => by rw [Reps] at h; subst h; exact .nil
  | p :: ps, vs, s, h => by
    rw [Reps] at h; obtain ⟨v, ws, rfl, h2, h3⟩ := h
    rw [toPys, PyData.canLayAll0, Bool.and_eq_true] at s
    exact .cons (Rep.dp p v s.1 h2) (Reps.dp ps ws s.2 h3)
end
end
abbrev szL : Nat := 16777216
theorem szL_eq : szL = sizeLine := by rw [sizeLine_eq]
def addO (d e : D) (st : Sr) : R (D × Sr) := match peek st d, peek st e with
  | some (.int i), some (.int j) => .ok (.fz (.int (i + j)), st)
  | some (.lst xs), some (.lst ys) => if xs.length + ys.length ≤ szL then .ok (.cell st.length, st ++ [.lst (xs ++ ys)]) else .stuck
  | some (.tup xs), some (.tup ys) => if xs.length + ys.length ≤ szL then .ok (.fz (.tup (xs ++ ys)), st) else .stuck
  | some (.str x), some (.str y) => if x.length + y.length ≤ szL then .ok (.fz (.str (x ++ y)), st) else .stuck
  | _, _ => .stuck
def intO (g : Int → Int → Option P) (d e : D) (st : Sr) : R (D × Sr) := match d, e with
  | .fz (.int i), .fz (.int j) => match g i j with
    | some p => .ok (.fz p, st)
    | none => .stuck
  | _, _ => .stuck
abbrev subO := intO fun i j => some (.int (i - j))
abbrev ltO := intO fun i j => some (.bl (decide (i < j)))
abbrev leO := intO fun i j => some (.bl (decide (i ≤ j)))
abbrev gtO := intO fun i j => some (.bl (decide (j < i)))
abbrev geO := intO fun i j => some (.bl (decide (j ≤ i)))
abbrev modO := intO fun i j => if 0 < j then some (.int (i % j)) else none
abbrev fdivO := intO fun i j => if 0 < j ∧ j < 1073741824 then some (.int (i / j)) else none
def mulO (d e : D) (st : Sr) : R (D × Sr) := match peek st d, peek st e with
  | some (.int i), some (.int j) => if (-(2 ^ 64) < i ∧ i < 2 ^ 64) ∨ (-(2 ^ 64) < j ∧ j < 2 ^ 64) then .ok (.fz (.int (i * j)), st) else .stuck
  | some (.tup xs), some (.int k) => if xs ≠ [] ∧ k = 1 then .ok (d, st) else if xs ≠ [] ∧ 2 ≤ k ∧ k ≤ 1000 ∧ xs.length ≤ 1000 then .ok (.fz (.tup (List.replicate k.toNat xs).flatten), st) else .stuck
  | _, _ => .stuck
def negO (d : D) (st : Sr) : R (D × Sr) := match d with
  | .fz (.int i) => .ok (.fz (.int (-i)), st)
  | _ => .stuck
def eqO (d e : D) (st : Sr) : R (D × Sr) := match peek st d, peek st e with
  | some p, some q => if shP p = true ∧ shP q = true then .ok (.fz (.bl (eqP p q)), st) else .stuck
  | _, _ => .stuck
def neO (d e : D) (st : Sr) : R (D × Sr) := match peek st d, peek st e with
  | some p, some q => if shP p = true ∧ shP q = true then .ok (.fz (.bl (!eqP p q)), st) else .stuck
  | _, _ => .stuck
def P.isNon : P → Bool
  | .non => true
  | _ => false
def isNO (d : D) (e : D) (st : Sr) : R (D × Sr) := match d, e with
  | .fz p, .fz .non => .ok (.fz (.bl p.isNon), st)
  | .cell _, .fz .non => .ok (.fz (.bl false), st)
  | _, _ => .stuck
def notNO (d : D) (e : D) (st : Sr) : R (D × Sr) := match d, e with
  | .fz p, .fz .non => .ok (.fz (.bl (!p.isNon)), st)
  | .cell _, .fz .non => .ok (.fz (.bl true), st)
  | _, _ => .stuck
section
variable {X : Cx} {W : WX}
theorem fz_int {K : PySem.W.Frag} {Z : Hp} {φ : List Addr} {i : Int} {v : V} (h : RepD K Z φ (.fz (.int i)) v) : v = .int i := by
  have h' : Rep K Z (.int i) v := h
  rw [Rep] at h'; exact h'
theorem rep_int {K : PySem.W.Frag} {Z : Hp} {φ : List Addr} {i : Int} : RepD K Z φ (.fz (.int i)) (.int i) := by show Rep _ _ _ _; rw [Rep]
theorem rep_bl {K : PySem.W.Frag} {Z : Hp} {φ : List Addr} {i : Bool} : RepD K Z φ (.fz (.bl i)) (.bl i) := by show Rep _ _ _ _; rw [Rep]
theorem rep_str {K : PySem.W.Frag} {Z : Hp} {φ : List Addr} {i : Str} : RepD K Z φ (.fz (.str i)) (.str i) := by show Rep _ _ _ _; rw [Rep]
theorem rep_non {K : PySem.W.Frag} {Z : Hp} {φ : List Addr} : RepD K Z φ (.fz .non) .non := by show Rep _ _ _ _; rw [Rep]
/-- an operation on two ints -/
theorem op_int {f : Value → Value → Sem Value} {r : R2} {g : Int → Int → Option P} (ho : OpR X f r) (hg : ∀ i j p, g i j = some p → ∃ v, (∀ Z, Rep X.K Z p v) ∧ ∀ H Q, Q v H → r (.int i) (.int j) H Q) : OpR X f (rM X.K W (intO g)) := by
  intro pins s σ H x y v u Q I rx ry ⟨d, e, Z, φ, st, rs, rd, re, af⟩
  unfold intO at af
  split at af
  · rename_i i j
    obtain rfl := fz_int rd
    obtain rfl := fz_int re
    split at af
    · rename_i p hp
      obtain ⟨w, hw, hr⟩ := hg _ _ _ hp
      exact ho pins s σ H _ _ v u Q I rx ry (hr _ _ (af.here rs (show RepD X.K Z φ (.fz p) w from hw Z)))
    · exact af.elim
  · exact af.elim
theorem o_sub : OpR X (binaryOp .Sub) (rM X.K W subO) := op_int op_sub fun i j p h => by cases h; exact ⟨.int (i - j), fun Z => by rw [Rep], fun H Q q => ⟨i, j, rfl, rfl, q⟩⟩
theorem o_lt : OpR X (compareOp .Lt) (rM X.K W ltO) := op_int op_lt fun i j p h => by cases h; exact ⟨.bl (decide (i < j)), fun Z => by rw [Rep], fun H Q q => ⟨i, j, rfl, rfl, q⟩⟩
theorem o_le : OpR X (compareOp .LtE) (rM X.K W leO) := op_int op_le fun i j p h => by cases h; exact ⟨.bl (decide (i ≤ j)), fun Z => by rw [Rep], fun H Q q => ⟨i, j, rfl, rfl, q⟩⟩
theorem o_gt : OpR X (compareOp .Gt) (rM X.K W gtO) := op_int op_gt fun i j p h => by cases h; exact ⟨.bl (decide (j < i)), fun Z => by rw [Rep], fun H Q q => ⟨i, j, rfl, rfl, q⟩⟩
theorem o_ge : OpR X (compareOp .GtE) (rM X.K W geO) := op_int op_ge fun i j p h => by cases h; exact ⟨.bl (decide (j ≤ i)), fun Z => by rw [Rep], fun H Q q => ⟨i, j, rfl, rfl, q⟩⟩
theorem o_mod : OpR X (binaryOp .Mod) (rM X.K W modO) := op_int op_mod fun i j p h => by
  by_cases hj : 0 < j
  · rw [if_pos hj] at h; cases h; exact ⟨.int (i % j), fun Z => by rw [Rep], fun H Q q => ⟨i, j, rfl, rfl, hj, q⟩⟩
  · rw [if_neg hj] at h; cases h
theorem o_fdiv : OpR X (binaryOp .FloorDiv) (rM X.K W fdivO) := op_int op_fdiv fun i j p h => by
  by_cases hj : 0 < j ∧ j < 1073741824
  · rw [if_pos hj] at h; cases h; exact ⟨.int (i / j), fun Z => by rw [Rep], fun H Q q => ⟨i, j, rfl, rfl, hj, q⟩⟩
  · rw [if_neg hj] at h; cases h
theorem o_neg : UnR X (unaryOp .USub) (rM1 X.K W negO) := by
  intro pins s σ H x v Q I rx ⟨d, Z, φ, st, rs, rd, af⟩
  unfold negO at af
  split at af
  · obtain rfl := fz_int rd
    exact un_neg pins s σ H _ v Q I rx ⟨_, rfl, af.here rs rep_int⟩
  · exact af.elim
theorem o_add : OpR X (binaryOp .Add) (rM X.K W addO) := by
  intro pins s σ H x y v u Q I rx ry ⟨d, e, Z, φ, st, rs, rd, re, af⟩
  unfold addO at af
  split at af
  · rename_i i j h1 h2
    obtain rfl := peek_pk rs h1 rd
    obtain rfl := peek_pk rs h2 re
    exact op_add pins s σ H _ _ v u Q I rx ry ⟨_, _, rfl, rfl, af.here rs rep_int⟩
  · rename_i xs ys h1 h2
    obtain ⟨a, vs, rfl, ha, ra⟩ := peek_pk rs h1 rd
    obtain ⟨b, ws, rfl, hb, rb⟩ := peek_pk rs h2 re
    split at af
    · rename_i hz
      rw [ra.length, rb.length, szL_eq] at hz
      exact op_cat pins s σ H _ _ v u Q I rx ry ⟨a, b, vs, ws, rfl, rfl, ha, hb, hz, fun p hp => af.lst rs hp (ra.append rb)⟩
    · exact af.elim
  · rename_i xs ys h1 h2
    obtain ⟨a, vs, rfl, ha, ra⟩ := peek_pk rs h1 rd
    obtain ⟨b, ws, rfl, hb, rb⟩ := peek_pk rs h2 re
    split at af
    · rename_i hz
      rw [ra.length, rb.length, szL_eq] at hz
      refine op_catA pins s σ H _ _ v u Q I rx ry ⟨a, b, vs, ws, rfl, rfl, ha, hb, hz, fun z => ?_, fun _ z => ?_, fun _ _ p hp => ?_⟩
      · subst z
        have : xs = [] := List.length_eq_zero_iff.mp ra.length
        subst this
        have re' := peek_rep' rs h2 re
        exact af.here rs re'
      · subst z
        have : ys = [] := List.length_eq_zero_iff.mp rb.length
        subst this
        rw [List.append_nil] at af
        exact af.here rs (peek_rep' rs h1 rd)
      · exact af.newZ rs hp fun sz => by rw [Rep]; exact ⟨p, vs ++ ws, rfl, .inl (.inl upd_same), (ra.append rb).mono sz⟩
    · exact af.elim
  · rename_i xs ys h1 h2
    obtain rfl := peek_pk rs h1 rd
    obtain rfl := peek_pk rs h2 re
    split at af
    · rename_i hz
      rw [szL_eq] at hz
      exact op_add_str pins s σ H _ _ v u Q I rx ry ⟨_, _, rfl, rfl, hz, af.here rs rep_str⟩
    · exact af.elim
  · exact af.elim
where
  peek_rep' {K : PySem.W.Frag} {Z H : Hp} {φ : List Addr} {st : Sr} {d : D} {xs : List P} {v : V} (rs : RS K Z φ st H) (h : peek st d = some (.tup xs)) (r : RepD K Z φ d v) : RepD K Z φ (.fz (.tup xs)) v := by
    cases d with
    | fz q => cases h; exact r
    | cell n =>
      obtain ⟨a, h1, rfl⟩ := r
      obtain ⟨c, hc, rc⟩ := rs.at_ h1
      unfold peek at h
      simp only [hc] at h
      cases c with
      | lst xs => cases h
      | dct kvs => cases h
      | obj c fs => cases h
      | lsD xs => cases h
      | tuD xs => cases h
      | ldct xs => cases h
      | dn xs => cases h
      | frz p' => cases h; exact rc.1
end
end M
end
section
set_option Elab.async false
set_option linter.all false
set_option maxRecDepth 100000
set_option maxHeartbeats 0
namespace M
open PySem L2
section
variable {K : PySem.W.Frag} {Z H : Hp} {φ : List Addr}
theorem PkR.rep (e : Same Z H) {p : P} {v : V} (h : PkR K Z H p v) : Rep K H p v := by
  cases p with
  | non => rw [Rep]; exact h
  | bl b => rw [Rep]; exact h
  | int b => rw [Rep]; exact h
  | str b => rw [Rep]; exact h
  | tup xs => rw [Rep]; obtain ⟨a, vs, h1, h2, h3⟩ := h; exact ⟨a, vs, h1, h2, h3.mono e⟩
  | lst xs => rw [Rep]; obtain ⟨a, vs, h1, h2, h3⟩ := h; exact ⟨a, vs, h1, h2, h3.mono e⟩
  | rol xs => rw [Rep]; obtain ⟨a, vs, h1, h2, h3⟩ := h; exact ⟨a, vs, h1, h2, h3.mono e⟩
  | dct xs => rw [Rep]; obtain ⟨a, vs, h1, h2, h3⟩ := h; exact ⟨a, vs, h1, h2, RepK.mono e _ _ h3⟩
  | obj c xs => rw [Rep]; obtain ⟨a, dx, vs, h1, h2, h3⟩ := h; exact ⟨a, dx, vs, h1, h2, RepF.mono e _ _ h3⟩
  | cls c => rw [Rep]; exact h
  | dn xs => rw [Rep]; obtain ⟨a, vs, h1, h2, h3⟩ := h; exact ⟨a, vs, h1, h2, RepN.mono e _ _ h3⟩
end
section
open PySem.Spec PyProof.Rows
theorem tuple_mul1 (l : Addr) (items : Array Value) (n : Nat) (dd : Option Addr) (sl : Array (Option Value)) (u : Tok) (c0 : (decide ((1 : Int) < -(2 ^ 63)) || decide ((1 : Int) ≥ 2 ^ 63)) = false) (c1 : (items.isEmpty || (1 : Int) == 1) = true) :
    Meets (Builtin.«tuple.__mul__» ⟨[.ref l, .int 1 u], []⟩) (fun _ R s => s.heap.get? l = some { cls := .type "tuple", dict := dd, data := .seq items n, slots := sl } ∧ R (.ok (.ret (Value.ref l))) s) :=
  .of_wp fun prog w A R s h => by
    obtain ⟨hp, g, d, tk, os⟩ := s
    obtain ⟨hl, h⟩ := h
    have f1 := AutoSeq1.idx_int
    wp_walk using wpAny_loadPart' hl
    repeat (first
      | (refine wpAny_ite_false (decide_eq_false (by rw [c0]; exact Bool.false_ne_true)) ?_; wp_walk using wpAny_loadPart' hl)
      | (refine wpAny_ite_true (decide_eq_true c1) ?_; wp_walk using wpAny_loadPart' hl))
    exact ⟨_, rfl, h⟩
def rRepT1 (K : PySem.W.Frag) : R2 := fun x y H Q => ∃ l xs, x = .ref l ∧ y = .int 1 ∧ SqT K H l xs ∧ xs ≠ [] ∧ Q (.ref l) H
theorem op_repT1 {X : Cx} : OpR X (binaryOp .Mult) (rRepT1 X.K) := by
  intro pins s σ H x y v u Q I rx ry h
  obtain ⟨l, xs, rfl, rfl, hT, hne, q⟩ := h
  cases rx
  obtain ⟨t, rfl⟩ := ry
  obtain ⟨its, r, ⟨⟨cls, dd, data, sl⟩, ho, hc, n, hd⟩, hs⟩ := I.tuple hT
  simp only at hc hd
  subst hc hd
  have c0 : (decide ((1 : Int) < -(2 ^ 63)) || decide ((1 : Int) ≥ 2 ^ 63)) = false := by decide +kernel
  have c1 : (its.toArray.isEmpty || (1 : Int) == 1) = true := by simp
  refine wpAny_binaryOp_repeat_ref (T := "tuple") (U := "int") (by decide) ⟨_, ho, rfl⟩ (fun s' => typeIs_int s' 1 t) noFill_tuple_mul F.fills_int_mul F.slot_int_rmul repeat_tuple F.slot_int_index.lookup
    (call_meets F.slot_int_rmul (typeIs_int s 1 t) F.entry_int_rmul (F.args_int_rmul_2 _ _) (int_rmul_tuple 1 t l its.toArray n dd sl)
      ⟨ho, rfl, ⟨_, ho, rfl⟩, call_meets F.slot_tuple_mul ⟨_, ho, rfl⟩ F.entry_tuple_mul (F.args_tuple_mul_2 _ _) (tuple_mul1 l its.toArray n dd sl t c0 c1) ⟨ho, ?_⟩⟩)
  exact ⟨.ref l, H, I, rfl, q⟩
end
section
variable {X : Cx} {W : WX}
theorem o_mul : OpR X (binaryOp .Mult) (rM X.K W mulO) := by
  intro pins s σ H x y v u Q I rx ry ⟨d, e, Z, φ, st, rs, rd, re, af⟩
  unfold mulO at af
  split at af
  · rename_i i j h1 h2
    obtain rfl := peek_pk rs h1 rd
    obtain rfl := peek_pk rs h2 re
    split at af
    · rename_i hz
      exact op_mul pins s σ H _ _ v u Q I rx ry ⟨_, _, rfl, rfl, hz, af.here rs rep_int⟩
    · exact af.elim
  · rename_i xs k h1 h2
    obtain ⟨a, vs, rfl, ha, ra⟩ := peek_pk rs h1 rd
    obtain rfl := peek_pk rs h2 re
    split at af
    · rename_i hz
      obtain ⟨z1, rfl⟩ := hz
      exact op_repT1 pins s σ H _ _ v u Q I rx ry ⟨a, vs, rfl, rfl, ha, fun z => z1 (List.length_eq_zero_iff.mp (by rw [ra.length, z]; rfl)), af.here rs rd⟩
    split at af
    · rename_i hz
      obtain ⟨z1, z2, z3, z4⟩ := hz
      refine op_repT pins s σ H _ _ v u Q I rx ry ⟨a, k, vs, rfl, rfl, ha, fun z => z1 (List.length_eq_zero_iff.mp (by rw [ra.length, z]; rfl)), z2, z3, by rw [← ra.length]; exact z4, fun p hp => ?_⟩
      refine af.newZ rs hp fun sz => ?_
      rw [Rep]
      refine ⟨p, _, rfl, .inl (.inl upd_same), ?_⟩
      have r2 := Reps.mono sz _ _ ra
      have : ∀ n : Nat, Reps X.K (upd Z p (.tup (List.replicate k.toNat vs).flatten)) (List.replicate n xs).flatten (List.replicate n vs).flatten := fun n => by
        induction n with
        | zero => exact Reps.nil
        | succ n ih => rw [List.replicate_succ, List.replicate_succ, List.flatten_cons, List.flatten_cons]; exact r2.append ih
      exact this _
    · exact af.elim
  · exact af.elim
theorem o_eq (hu : X.A.units + 64 < cLine) : OpR X (compareOp .Eq) (rM X.K W eqO) := by
  intro pins s σ H x y v u Q I rx ry ⟨d, e, Z, φ, st, rs, rd, re, af⟩
  unfold eqO at af
  split at af
  · rename_i p q h1 h2
    split at af
    · rename_i hz
      exact op_eqD hu pins s σ H _ _ v u Q I rx ry ⟨_, _, Rep.dp _ _ (SeqAt.canLay_of_shaped hz.1) ((peek_pk rs h1 rd).rep rs.same), Rep.dp _ _ (SeqAt.canLay_of_shaped hz.2) ((peek_pk rs h2 re).rep rs.same), hz.1, hz.2, af.here rs rep_bl⟩
    · exact af.elim
  · exact af.elim
theorem o_ne (hu : X.A.units + 64 < cLine) : OpR X (compareOp .NotEq) (rM X.K W neO) := by
  intro pins s σ H x y v u Q I rx ry ⟨d, e, Z, φ, st, rs, rd, re, af⟩
  unfold neO at af
  split at af
  · rename_i p q h1 h2
    split at af
    · rename_i hz
      exact op_neD hu pins s σ H _ _ v u Q I rx ry ⟨_, _, Rep.dp _ _ (SeqAt.canLay_of_shaped hz.1) ((peek_pk rs h1 rd).rep rs.same), Rep.dp _ _ (SeqAt.canLay_of_shaped hz.2) ((peek_pk rs h2 re).rep rs.same), hz.1, hz.2, af.here rs rep_bl⟩
    · exact af.elim
  · exact af.elim
theorem repD_non {K : PySem.W.Frag} {Z : Hp} {p : P} {v : V} (h : Rep K Z p v) : decide (v = .non) = p.isNon := by
  cases p with
  | non => rw [Rep] at h; subst h; rfl
  | bl b => rw [Rep] at h; subst h; rfl
  | int b => rw [Rep] at h; subst h; rfl
  | str b => rw [Rep] at h; subst h; rfl
  | tup xs => rw [Rep] at h; obtain ⟨a, vs, rfl, _⟩ := h; rfl
  | lst xs => rw [Rep] at h; obtain ⟨a, vs, rfl, _⟩ := h; rfl
  | rol xs => rw [Rep] at h; obtain ⟨a, vs, rfl, _⟩ := h; rfl
  | dct xs => rw [Rep] at h; obtain ⟨a, vs, rfl, _⟩ := h; rfl
  | obj c xs => rw [Rep] at h; obtain ⟨a, dx, vs, rfl, _⟩ := h; rfl
  | cls c => rw [Rep] at h; subst h; rfl
  | dn xs => rw [Rep] at h; obtain ⟨a, vs, rfl, _⟩ := h; rfl
theorem o_isN : OpR X (compareOp .Is) (rM X.K W isNO) := by
  intro pins s σ H x y v u Q I rx ry ⟨d, e, Z, φ, st, rs, rd, re, af⟩
  unfold isNO at af
  split at af
  · rename_i p
    have e1 : y = .non := by have re' : Rep X.K Z .non y := re; rw [Rep] at re'; exact re'
    subst e1
    refine op_isN pins s σ H _ _ v u Q I rx ry ⟨rfl, ?_⟩
    rw [repD_non (show Rep X.K Z p x from rd)]
    exact af.here rs rep_bl
  · have e1 : y = .non := by have re' : Rep X.K Z .non y := re; rw [Rep] at re'; exact re'
    subst e1
    obtain ⟨a, _, rfl⟩ := rd
    exact op_isN pins s σ H _ _ v u Q I rx ry ⟨rfl, af.here rs rep_bl⟩
  · exact af.elim
theorem o_notN : OpR X (compareOp .IsNot) (rM X.K W notNO) := by
  intro pins s σ H x y v u Q I rx ry ⟨d, e, Z, φ, st, rs, rd, re, af⟩
  unfold notNO at af
  split at af
  · rename_i p
    have e1 : y = .non := by have re' : Rep X.K Z .non y := re; rw [Rep] at re'; exact re'
    subst e1
    refine op_notN pins s σ H _ _ v u Q I rx ry ⟨rfl, ?_⟩
    rw [repD_non (show Rep X.K Z p x from rd)]
    exact af.here rs rep_bl
  · have e1 : y = .non := by have re' : Rep X.K Z .non y := re; rw [Rep] at re'; exact re'
    subst e1
    obtain ⟨a, _, rfl⟩ := rd
    exact op_notN pins s σ H _ _ v u Q I rx ry ⟨rfl, af.here rs rep_bl⟩
  · exact af.elim
end
def allFz : List (Str × D) → Option (List (Str × P))
  | [] => some []
  | (k, .fz p) :: r => match allFz r with
    | some ps => some ((k, p) :: ps)
    | none => none
  | _ => none
theorem allFz_ok {K : PySem.W.Frag} {Z : Hp} {φ : List Addr} : ∀ {fs : List (Str × D)} {ps : List (Str × P)} {gs : List (Str × V)}, allFz fs = some ps → RepDF K Z φ fs gs → RepF K Z ps gs
  | [], ps, gs, e, r => by cases e; rw [RepF]; exact r
  | (k, .fz p) :: r, ps, gs, e, h => by
    unfold allFz at e
    split at e
    · rename_i qs e1
      cases e
      obtain ⟨v, ws, rfl, h1, h2⟩ := h
      rw [RepF]
      exact ⟨v, ws, rfl, h1, allFz_ok e1 h2⟩
    · cases e
  | (k, .cell n) :: r, ps, gs, e, h => by cases e
def toP (st : Sr) : D → Option (P × Sr)
  | .fz p => some (p, st)
  | .cell n => match st[n]? with
    | some (.lst xs) => some (.lst xs, st.set n (.frz (.lst xs)))
    | some (.dct kvs) => some (.dct kvs, st.set n (.frz (.dct kvs)))
    | some (.dn kvs) => some (.dn kvs, st.set n (.frz (.dn kvs)))
    | some (.obj c fs) => match allFz fs with
      | some ps => some (.obj c ps, st.set n (.frz (.obj c ps)))
      | none => none
    | some (.frz p) => some (p, st)
    | _ => none
def toPs (st : Sr) : List D → Option (List P × Sr)
  | [] => some ([], st)
  | d :: ds => match toP st d with
    | some (p, st1) => match toPs st1 ds with
      | some (ps, st2) => some (p :: ps, st2)
      | none => none
    | none => none
/-- the heap stands; more of it is frozen -/
structure Frz (Z Z' H : Hp) (φ : List Addr) : Prop where
  hz : Same Z Z'
  zn : ∀ b, Z' b ≠ none → Z b ≠ none ∨ b ∈ φ
theorem Frz.step {Z Z' H : Hp} {φ : List Addr} (h : Frz Z Z' H φ) : Step Z φ H Z' φ H :=
  ⟨h.hz, ⟨[], by simp, by simp⟩, fun _ _ h _ _ => h, fun b hb => (h.zn b hb).elim .inl fun z => .inr (.inr z), fun _ h => h, fun _ _ _ h => h⟩
theorem Frz.refl {Z H : Hp} {φ : List Addr} : Frz Z Z H φ := ⟨Same.refl _, fun _ h => .inl h⟩
theorem Frz.trans {Z Z1 Z2 H : Hp} {φ : List Addr} (a : Frz Z Z1 H φ) (b : Frz Z1 Z2 H φ) : Frz Z Z2 H φ := ⟨a.hz.trans b.hz, fun c hc => (b.zn c hc).elim (a.zn c) .inr⟩
section
variable {K : PySem.W.Frag} {Z H : Hp} {φ : List Addr}
theorem RS.freeze {st : Sr} (h : RS K Z φ st H) {n : Nat} {a : Addr} {o : HO} {p : P} (e : φ[n]? = some a) (hz : Z a = none) (ho : H a = some o) (hd : Dat o) (hr : Same Z (upd Z a o) → Rep K (upd Z a o) p (.ref a)) :
    RS K (upd Z a o) φ (st.set n (.frz p)) H ∧ Frz Z (upd Z a o) H φ := by
  have sz : Same Z (upd Z a o) := fun b u hb => by rw [upd_ne (by rintro rfl; rw [hz] at hb; cases hb)]; exact hb
  refine ⟨⟨fun b u hb => ?_, by simp [h.len], h.nd, fun i b c' hi hc' => ?_, h.tb, fun b ps z => ?_⟩, ⟨sz, fun b hb => ?_⟩⟩
  · by_cases q : b = a
    · subst q; rw [upd_same] at hb; cases hb; exact ho
    · rw [upd_ne q] at hb; exact h.same b u hb
  · by_cases hin : i = n
    · subst hin
      rw [e] at hi; cases hi
      have hl : i < st.length := by rw [← h.len]; exact (List.getElem?_eq_some_iff.mp e).1
      rw [List.getElem?_set_self hl] at hc'; cases hc'
      exact ⟨hr sz, o, ho, hd⟩
    · rw [List.getElem?_set_ne (Ne.symm hin)] at hc'
      have nb : b ≠ a := by rintro rfl; exact hin (RS.write.nodup_ix' h.nd hi e)
      exact (h.cells i b c' hi hc').keep sz ⟨[], by simp⟩ (fun q => by rw [upd_ne nb]; exact (h.cells i b c' hi hc').free q) fun u hu _ => hu
  · by_cases q : b = a
    · subst q; rw [upd_same] at z; cases z; exact hd.1 (.inl ⟨ps, rfl⟩)
    · rw [upd_ne q] at z; exact h.zd b ps z
  · by_cases q : b = a
    · subst q; exact .inr (List.mem_of_getElem? e)
    · rw [upd_ne q] at hb; exact .inl hb
theorem toP_ok {st st' : Sr} (h : RS K Z φ st H) {d : D} {p : P} {v : V} (e : toP st d = some (p, st')) (r : RepD K Z φ d v) : ∃ Z', Frz Z Z' H φ ∧ RS K Z' φ st' H ∧ Rep K Z' p v := by
  cases d with
  | fz q => cases e; exact ⟨Z, .refl, h, r⟩
  | cell n =>
    obtain ⟨a, h1, rfl⟩ := r
    obtain ⟨c, hc, rc⟩ := h.at_ h1
    unfold toP at e
    simp only [hc] at e
    cases c with
    | lst xs =>
      cases e
      obtain ⟨hz, vs, h2, h3⟩ := rc
      obtain ⟨q1, q2⟩ := h.freeze (p := .lst xs) h1 hz h2 dat_lst fun sz => by rw [Rep]; exact ⟨a, vs, rfl, upd_same, h3.mono sz⟩
      exact ⟨_, q2, q1, by rw [Rep]; exact ⟨a, vs, rfl, upd_same, h3.mono q2.hz⟩⟩
    | dct kvs =>
      cases e
      obtain ⟨hz, vs, h2, h3⟩ := rc
      obtain ⟨q1, q2⟩ := h.freeze (p := .dct kvs) h1 hz h2 dat_dK fun sz => by rw [Rep]; exact ⟨a, vs, rfl, upd_same, RepK.mono sz _ _ h3⟩
      exact ⟨_, q2, q1, by rw [Rep]; exact ⟨a, vs, rfl, upd_same, RepK.mono q2.hz _ _ h3⟩⟩
    | obj c fs =>
      dsimp only at e
      split at e
      · rename_i ps e1
        cases e
        obtain ⟨hz, dx, gs, h2, h3⟩ := rc
        have h4 := allFz_ok e1 h3
        obtain ⟨q1, q2⟩ := h.freeze (p := .obj c ps) h1 hz h2 dat_ins fun sz => by rw [Rep]; exact ⟨a, dx, gs, rfl, upd_same, RepF.mono sz _ _ h4⟩
        exact ⟨_, q2, q1, by rw [Rep]; exact ⟨a, dx, gs, rfl, upd_same, RepF.mono q2.hz _ _ h4⟩⟩
      · cases e
    | lsD xs => cases e
    | tuD xs => cases e
    | ldct xs => cases e
    | dn kvs =>
      cases e
      obtain ⟨hz, vs, h2, h3⟩ := rc
      obtain ⟨o, g1, g2, g3⟩ := h2.dat
      obtain ⟨q1, q2⟩ := h.freeze (p := .dn kvs) h1 hz g1 g2 fun sz => by rw [Rep]; exact ⟨a, vs, rfl, g3 _ upd_same, RepN.mono sz _ _ h3⟩
      exact ⟨_, q2, q1, by rw [Rep]; exact ⟨a, vs, rfl, g3 _ upd_same, RepN.mono q2.hz _ _ h3⟩⟩
    | frz p' => cases e; exact ⟨Z, .refl, h, rc.1⟩
theorem toPs_ok : ∀ {ds : List D} {Z : Hp} {st st' : Sr} {ps : List P} {vs : List V}, RS K Z φ st H → toPs st ds = some (ps, st') → RepDs K Z φ ds vs → ∃ Z', Frz Z Z' H φ ∧ RS K Z' φ st' H ∧ Reps K Z' ps vs
  | [], Z, st, st', ps, vs, h, e, r => by cases e; cases r; exact ⟨Z, .refl, h, .nil⟩
  | d :: ds, Z, st, st', ps, vs, h, e, r => by
    obtain ⟨v, ws, rfl, r1, r2⟩ := r
    unfold toPs at e
    split at e
    · rename_i p st1 e1
      split at e
      · rename_i qs st2 e2
        cases e
        obtain ⟨Z1, f1, rs1, q1⟩ := toP_ok h e1 r1
        obtain ⟨Z2, f2, rs2, q2⟩ := toPs_ok rs1 e2 (r2.mono f1.hz ⟨[], by simp⟩)
        exact ⟨Z2, f1.trans f2, rs2, .cons (q1.mono f2.hz) q2⟩
      · cases e
    · cases e
end
def tupO (ds : List D) (st : Sr) : R (D × Sr) := match toPs st ds with
  | some (ps, st') => if ps.length ≤ szL then .ok (.fz (.tup ps), st') else .stuck
  | none => .stuck
def lstO (ds : List D) (st : Sr) : R (D × Sr) := match toPs st ds with
  | some (ps, st') => if ps.length ≤ szL then .ok (.cell st'.length, st' ++ [.lst ps]) else .stuck
  | none => .stuck
section
variable {X : Cx} {W : WX} {es : List Expr} {pos : Pos} {fs : DA}
theorem de_tup {x1} (h : PA X es (tA X.K W fs)) : PE X (.Tuple es x1 pos) (tE X.K W (dAp tupO fs)) := by
  refine (pe_tup h).to fun σ H Q h => ?_
  obtain ⟨Z, φ, η, st, rs, sl, af⟩ := h
  refine ⟨Z, φ, η, st, rs, sl, af.bind.mono fun a Z' φ' H' t g' rs' vs r => ?_⟩
  unfold tupO at g'
  split at g'
  · rename_i ps st' e
    split at g'
    · rename_i hz
      obtain ⟨Z2, f2, rs2, q2⟩ := toPs_ok rs' e r
      refine ⟨by rw [← q2.length, ← szL_eq]; exact hz, fun p hp => ?_⟩
      exact (g'.later f2.step).newZ rs2 hp fun sz => by rw [Rep]; exact ⟨p, vs, rfl, .inl (.inl upd_same), q2.mono sz⟩
    · exact g'.elim
  · exact g'.elim
theorem de_lst (h : PA X es (tA X.K W fs)) : PE X (.List es pos) (tE X.K W (dAp lstO fs)) := by
  refine (pe_lst h).to fun σ H Q h => ?_
  obtain ⟨Z, φ, η, st, rs, sl, af⟩ := h
  refine ⟨Z, φ, η, st, rs, sl, af.bind.mono fun a Z' φ' H' t g' rs' vs r => ?_⟩
  unfold lstO at g'
  split at g'
  · rename_i ps st' e
    split at g'
    · rename_i hz
      obtain ⟨Z2, f2, rs2, q2⟩ := toPs_ok rs' e r
      refine ⟨by rw [← q2.length, ← szL_eq]; exact hz, fun p hp => ?_⟩
      exact (g'.later f2.step).lst rs2 hp q2
    · exact g'.elim
  · exact g'.elim
end
def truP : P → Option Bool
  | .non => some false
  | .bl b => some b
  | .int i => some (i != 0)
  | .str y => if y.length ≤ szL then some ((y.length : Int) != 0) else none
  | .tup xs => some (!xs.isEmpty)
  | .lst xs => some (!xs.isEmpty)
  | .rol xs => some (!xs.isEmpty)
  | .dct xs => some (!xs.isEmpty)
  | .obj _ _ => none
  | .cls _ => none
  | .dn _ => none
def truO (d : D) (st : Sr) : R (Bool × Sr) := match peek st d with
  | some p => match truP p with
    | some b => .ok (b, st)
    | none => .stuck
  | none => .stuck
def dTru (f : DE) : DT := fun η st => (f η st).bind fun a => truO a.1 a.2
def dAnd (f g : DT) : DT := fun η st => (f η st).bind fun a => if a.1 = true then g η a.2 else .ok (false, a.2)
def dOr (f g : DT) : DT := fun η st => (f η st).bind fun a => if a.1 = true then .ok (true, a.2) else g η a.2
def dNot (f : DT) : DT := fun η st => (f η st).bind fun a => .ok (!a.1, a.2)
section
variable {X : Cx} {W : WX} {a b e : Expr} {rest : List Expr} {pos : Pos} {f g : DE} {t u : DT}
theorem isEmpty_reps {K : PySem.W.Frag} {Z : Hp} {xs : List P} {vs : List V} (h : Reps K Z xs vs) : xs.isEmpty = vs.isEmpty := by
  cases xs with
  | nil => rw [Reps] at h; subst h; rfl
  | cons p ps => rw [Reps] at h; obtain ⟨v, ws, rfl, _⟩ := h; rfl
theorem isEmpty_repK {K : PySem.W.Frag} {Z : Hp} {xs : List (Key × P)} {vs : List (Key × V)} (h : RepK K Z xs vs) : xs.isEmpty = vs.isEmpty := by
  cases xs with
  | nil => rw [RepK] at h; subst h; rfl
  | cons p ps => obtain ⟨k, p⟩ := p; rw [RepK] at h; obtain ⟨v, ws, rfl, _⟩ := h; rfl
theorem tru_pk {K : PySem.W.Frag} {Z H : Hp} {p : P} {v : V} {k : Bool} (h : PkR K Z H p v) (e : truP p = some k) : TruV K v H k := by
  cases p with
  | non => cases h; cases e; rfl
  | bl b => cases h; cases e; rfl
  | int b => cases h; cases e; rfl
  | str b =>
    cases h
    have e' : (if b.length ≤ szL then some ((b.length : Int) != 0) else none) = some k := e
    split at e'
    · rename_i hz
      cases e'
      rw [szL_eq] at hz
      exact ⟨hz, rfl⟩
    · cases e'
  | tup xs => obtain ⟨a, vs, rfl, h2, h3⟩ := h; cases e; exact .inr (.inl ⟨vs, h2, by rw [isEmpty_reps h3]⟩)
  | lst xs => obtain ⟨a, vs, rfl, h2, h3⟩ := h; cases e; exact .inl ⟨vs, SqL.of h2, by rw [isEmpty_reps h3]⟩
  | rol xs => obtain ⟨a, vs, rfl, h2, h3⟩ := h; cases e; exact .inl ⟨vs, h2, by rw [isEmpty_reps h3]⟩
  | dct xs => obtain ⟨a, vs, rfl, h2, h3⟩ := h; cases e; exact .inr (.inr ⟨vs, h2, by rw [isEmpty_repK h3]⟩)
  | cls c => cases e
  | dn c => cases e
  | obj c xs => cases e
theorem dt_tru (ha : PE X a (tE X.K W f)) (he : ∀ whole, isTrue a X.env whole = (do let v ← whole; standAt a.pos; holding [v] (truthy v)) := by intro _; rfl) : PT X a (tT X.K W (dTru f)) := by
  refine (pt_truth ha he).to fun σ H Q h => ?_
  obtain ⟨Z, φ, η, st, rs, sl, af⟩ := h
  refine ⟨Z, φ, η, st, rs, sl, af.bind.mono fun a Z' φ' H' t g' rs' v r => ?_⟩
  unfold truO at g'
  split at g'
  · rename_i p e
    split at g'
    · rename_i k e2
      exact ⟨k, tru_pk (peek_pk rs' e r) e2, g'.hereT rs'⟩
    · exact g'.elim
  · exact g'.elim
theorem dt_cmp {op : CmpOp} {o : D → D → Sr → R (D × Sr)} (ho : OpR X (compareOp op) (rM X.K W o)) (ha : PE X a (tE X.K W f)) (hb : PE X b (tE X.K W g)) (hm : behindInMarks op b = false := by first | exact nomark _ | rfl) : PT X (.Compare a [op] [b] pos) (tT X.K W (dTru (dBin o f g))) := by
  have ho' : OpR X (compareOp op) (fun x y H Q => ∃ d e, ∃ Z φ st, RS X.K Z φ st H ∧ RepD X.K Z φ d x ∧ RepD X.K Z φ e y ∧ Af X.K W Z φ H (o d e st) (GE X.K Q)) := ho
  refine ⟨fun pins s σ H Q I h => ?_⟩
  refine wpAny_isTrue_Compare1 (thn (ha.run pins s σ H (fun v H1 => ∃ d, ∃ Z φ η st, RS X.K Z φ st H1 ∧ Slots X.K Z φ η σ ∧ RepD X.K Z φ d v ∧ Af X.K W Z φ H1 ((g η st).bind fun b => (o d b.1 b.2).bind fun c => truO c.1 c.2) (GT X.K Q)) I ?_) fun v s1 ⟨x, H1, I1, r1, q1⟩ => ?_) hm
  · obtain ⟨Z, φ, η, st, rs, sl, af⟩ := h
    refine ⟨Z, φ, η, st, rs, sl, ?_⟩
    have af2 : Af X.K W Z φ H ((f η st).bind fun a => (g η a.2).bind fun b => (o a.1 b.1 b.2).bind fun c => truO c.1 c.2) (GT X.K Q) := by
      have e : dTru (dBin o f g) η st = ((f η st).bind fun a => (g η a.2).bind fun b => (o a.1 b.1 b.2).bind fun c => truO c.1 c.2) := by
        unfold dTru dBin R.bind
        cases f η st with
        | ok a => dsimp only; cases g η a.2 <;> rfl
        | exc => rfl
        | stuck => rfl
      rw [← e]; exact af
    exact af2.bind.mono fun a Z' φ' H' t g' rs' v r => ⟨a.1, Z', φ', η, a.2, rs', sl.mono t, r, g'⟩
  · obtain ⟨d, Z, φ, η, st, rs, sl, rd, af⟩ := q1
    refine thn (hb.run pins s1 σ H1 (fun u H2 => ∃ e, ∃ Z φ st, RS X.K Z φ st H2 ∧ RepD X.K Z φ d x ∧ RepD X.K Z φ e u ∧ Af X.K W Z φ H2 ((o d e st).bind fun c => truO c.1 c.2) (GT X.K Q)) I1 ?_) fun u s2 ⟨y, H2, I2, r2, q2⟩ => ?_
    · exact ⟨Z, φ, η, st, rs, sl, af.bind.mono fun a Z' φ' H' t g' rs' v r => ⟨a.1, Z', φ', a.2, rs', rd.mono t.hz t.app, r, g'⟩⟩
    · obtain ⟨e, Z2, φ2, st2, rs2, rd2, re2, af2⟩ := q2
      refine thn (ho' pins s2 σ H2 x y v u (fun c H3 => ∃ k, TruV X.K c H3 k ∧ Q k H3) I2 r1 r2 ⟨d, e, Z2, φ2, st2, rs2, rd2, re2, af2.bind.mono fun a Z' φ' H' t g' rs' v r => ?_⟩) fun c s3 ⟨z, H3, I3, r3, k, tv, q3⟩ => ?_
      · unfold truO at g'
        split at g'
        · rename_i p e
          split at g'
          · rename_i k e2
            exact ⟨k, tru_pk (peek_pk rs' e r) e2, g'.hereT rs'⟩
          · exact g'.elim
        · exact g'.elim
      · exact tru_ok pins s3 σ H3 z c Q I3 r3 ⟨k, tv, q3⟩
theorem dw_and1 (ha : PT X a (tT X.K W t)) : PW X (.BoolOp .And [a] pos) (tT X.K W t) := pw_and1 ha
theorem dw_or1 (ha : PT X a (tT X.K W t)) : PW X (.BoolOp .Or [a] pos) (tT X.K W t) := pw_or1 ha
theorem dw_and (ha : PT X a (tT X.K W t)) (hb : PW X (.BoolOp .And (b :: rest) pos) (tT X.K W u)) : PW X (.BoolOp .And (a :: b :: rest) pos) (tT X.K W (dAnd t u)) := by
  refine (pw_and ha hb).to fun σ H Q h => ?_
  obtain ⟨Z, φ, η, st, rs, sl, af⟩ := h
  refine ⟨Z, φ, η, st, rs, sl, af.bind.mono fun a Z' φ' H' t g' rs' => ?_⟩
  split at g'
  · rename_i hc; rw [if_pos hc]; exact ⟨Z', φ', η, a.2, rs', sl.mono t, g'⟩
  · rename_i hc; rw [if_neg hc]; exact g'.hereT rs'
theorem dw_or (ha : PT X a (tT X.K W t)) (hb : PW X (.BoolOp .Or (b :: rest) pos) (tT X.K W u)) : PW X (.BoolOp .Or (a :: b :: rest) pos) (tT X.K W (dOr t u)) := by
  refine (pw_or ha hb).to fun σ H Q h => ?_
  obtain ⟨Z, φ, η, st, rs, sl, af⟩ := h
  refine ⟨Z, φ, η, st, rs, sl, af.bind.mono fun a Z' φ' H' t g' rs' => ?_⟩
  split at g'
  · rename_i hc; rw [if_pos hc]; exact g'.hereT rs'
  · rename_i hc; rw [if_neg hc]; exact ⟨Z', φ', η, a.2, rs', sl.mono t, g'⟩
theorem dt_not (ha : PT X a (tT X.K W t)) : PT X (.UnaryOp .Not a pos) (tT X.K W (dNot t)) := by
  refine (pt_not ha).to fun σ H Q h => ?_
  obtain ⟨Z, φ, η, st, rs, sl, af⟩ := h
  exact ⟨Z, φ, η, st, rs, sl, af.bind.mono fun a Z' φ' H' t g' rs' => g'.hereT rs'⟩
end
end M
end
section
set_option Elab.async false
set_option linter.all false
set_option maxRecDepth 100000
set_option maxHeartbeats 0
namespace M
open PySem L2
section
variable {K : PySem.W.Frag} {Z H : Hp} {φ : List Addr}
theorem RepDs.one {d : D} {vs : List V} (h : RepDs K Z φ [d] vs) : ∃ v, vs = [v] ∧ RepD K Z φ d v := by
  obtain ⟨v, ws, rfl, h1, h2⟩ := h
  cases h2
  exact ⟨v, rfl, h1⟩
theorem RepDs.zero {vs : List V} (h : RepDs K Z φ [] vs) : vs = [] := h
theorem Reps.drop : ∀ {n : Nat} {ps : List P} {vs : List V}, Reps K Z ps vs → Reps K Z (ps.drop n) (vs.drop n)
  | 0, _, _, h => h
  | n + 1, [], vs, h => by rw [Reps] at h; subst h; exact Reps.nil
  | n + 1, p :: ps, vs, h => by
    rw [Reps] at h
    obtain ⟨v, ws, rfl, _, h3⟩ := h
    simpa using Reps.drop (n := n) h3
theorem Reps.take : ∀ {n : Nat} {ps : List P} {vs : List V}, Reps K Z ps vs → Reps K Z (ps.take n) (vs.take n)
  | 0, _, _, h => by simpa using Reps.nil
  | n + 1, [], vs, h => by rw [Reps] at h; subst h; exact Reps.nil
  | n + 1, p :: ps, vs, h => by
    rw [Reps] at h
    obtain ⟨v, ws, rfl, h2, h3⟩ := h
    exact Reps.cons h2 (Reps.take (n := n) h3)
theorem Reps.reverse : ∀ {ps : List P} {vs : List V}, Reps K Z ps vs → Reps K Z ps.reverse vs.reverse
  | [], vs, h => by rw [Reps] at h; subst h; exact Reps.nil
  | p :: ps, vs, h => by
    rw [Reps] at h
    obtain ⟨v, ws, rfl, h2, h3⟩ := h
    rw [List.reverse_cons, List.reverse_cons]
    exact h3.reverse.append (.one h2)
theorem Reps.dropLast {ps : List P} {vs : List V} (h : Reps K Z ps vs) : Reps K Z ps.dropLast vs.dropLast := by
  rw [List.dropLast_eq_take, List.dropLast_eq_take, h.length]
  exact h.take
theorem Reps.atI {ps : List P} {vs : List V} {i : Int} {p : P} (h : Reps K Z ps vs) (e : L2.atI ps i = some p) : ∃ v, L2.atI vs i = some v ∧ Rep K Z p v := by
  unfold L2.atI at e ⊢
  rw [← h.length]
  cases q : ixN ps.length i with
  | none => rw [q] at e; cases e
  | some j => rw [q] at e; exact h.get e
end
def lenP : P → Option Int
  | .tup xs => some xs.length
  | .lst xs => some xs.length
  | .rol xs => some xs.length
  | .dct xs => some xs.length
  | .str s => if s.length ≤ szL then some s.length else none
  | _ => none
def lenO (ds : List D) (st : Sr) : R (D × Sr) := match ds with
  | [d] => match peek st d with
    | some p => match lenP p with
      | some n => .ok (.fz (.int n), st)
      | none => .stuck
    | none => .stuck
  | _ => .stuck
def absO (ds : List D) (st : Sr) : R (D × Sr) := match ds with
  | [.fz (.int i)] => .ok (.fz (.int (if i < 0 then -i else i)), st)
  | _ => .stuck
def int1O (ds : List D) (st : Sr) : R (D × Sr) := match ds with
  | [.fz (.int i)] => .ok (.fz (.int i), st)
  | [.fz (.bl b)] => .ok (.fz (.int (if b then 1 else 0)), st)
  | _ => .stuck
def itemsP : P → Option (List P)
  | .tup xs => some xs
  | .lst xs => some xs
  | .rol xs => some xs
  | _ => none
def listO (ds : List D) (st : Sr) : R (D × Sr) := match ds with
  | [d] => match (peek st d).bind itemsP with
    | some xs => .ok (.cell st.length, st ++ [.lst xs])
    | none => .stuck
  | _ => .stuck
def tupleO (ds : List D) (st : Sr) : R (D × Sr) := match ds with
  | [d] => match (peek st d).bind itemsP with
    | some xs => .ok (.fz (.tup xs), st)
    | none => .stuck
  | _ => .stuck
section
variable {X : Cx} {W : WX}
theorem pk_items {K : PySem.W.Frag} {Z H : Hp} {p : P} {v : V} {xs : List P} (h : PkR K Z H p v) (e : itemsP p = some xs) : ∃ a vs, v = .ref a ∧ (SqL K H a vs ∨ SqT K H a vs) ∧ Reps K Z xs vs := by
  cases p with
  | tup ys => cases e; obtain ⟨a, vs, h1, h2, h3⟩ := h; exact ⟨a, vs, h1, .inr h2, h3⟩
  | lst ys => cases e; obtain ⟨a, vs, h1, h2, h3⟩ := h; exact ⟨a, vs, h1, .inl (SqL.of h2), h3⟩
  | rol ys => cases e; obtain ⟨a, vs, h1, h2, h3⟩ := h; exact ⟨a, vs, h1, .inl h2, h3⟩
  | _ => cases e
theorem RepK.length {K : PySem.W.Frag} {Z : Hp} : ∀ {xs : List (Key × P)} {vs : List (Key × V)}, RepK K Z xs vs → xs.length = vs.length
  | [], vs, h => by rw [RepK] at h; subst h; rfl
  | (k, p) :: ps, vs, h => by
    rw [RepK] at h; obtain ⟨v, ws, rfl, _, h3⟩ := h
    simp [RepK.length h3]
theorem c_len : CallR X (.builtin "len") (rMA X.K W lenO) := by
  intro pins s σ H xs us Q I r ⟨ds, Z, φ, st, rs, rdd, af⟩
  unfold lenO at af
  split at af
  · obtain ⟨v, rfl, rd⟩ := rdd.one
    split at af
    · rename_i p e
      have pk := peek_pk rs e rd
      split at af
      · rename_i n en
        cases p with
        | tup ys => cases en; obtain ⟨a, vs, rfl, h2, h3⟩ := pk; rw [h3.length] at af; exact call_len pins s σ H _ us Q I r ⟨_, vs.length, rfl, .inr ⟨vs, h2, rfl⟩, af.here rs rep_int⟩
        | lst ys => cases en; obtain ⟨a, vs, rfl, h2, h3⟩ := pk; rw [h3.length] at af; exact call_len pins s σ H _ us Q I r ⟨_, vs.length, rfl, .inl ⟨vs, SqL.of h2, rfl⟩, af.here rs rep_int⟩
        | rol ys => cases en; obtain ⟨a, vs, rfl, h2, h3⟩ := pk; rw [h3.length] at af; exact call_len pins s σ H _ us Q I r ⟨_, vs.length, rfl, .inl ⟨vs, h2, rfl⟩, af.here rs rep_int⟩
        | dct ys => cases en; obtain ⟨a, vs, rfl, h2, h3⟩ := pk; rw [h3.length] at af; exact call_lenD pins s σ H _ us Q I r ⟨a, vs, rfl, h2, af.here rs rep_int⟩
        | str y =>
          obtain rfl := pk
          have en' : (if y.length ≤ szL then some ((y.length : Int)) else none) = some n := en
          split at en'
          · rename_i hz
            cases en'
            exact call_len pins s σ H _ us Q I r ⟨_, y.length, rfl, ⟨by rw [← szL_eq]; exact hz, rfl⟩, af.here rs rep_int⟩
          · cases en'
        | _ => cases en
      · exact af.elim
    · exact af.elim
  · exact af.elim
theorem c_abs : CallR X (.builtin "abs") (rMA X.K W absO) := by
  intro pins s σ H xs us Q I r ⟨ds, Z, φ, st, rs, rdd, af⟩
  unfold absO at af
  split at af
  · obtain ⟨v, rfl, rd⟩ := rdd.one
    obtain rfl := fz_int rd
    exact call_abs pins s σ H _ us Q I r ⟨_, rfl, af.here rs rep_int⟩
  · exact af.elim
theorem fz_bl {K : PySem.W.Frag} {Z : Hp} {φ : List Addr} {i : Bool} {v : V} (h : RepD K Z φ (.fz (.bl i)) v) : v = .bl i := by
  have h' : Rep K Z (.bl i) v := h
  rw [Rep] at h'; exact h'
theorem c_int1 : CallR X (.type "int") (rMA X.K W int1O) := by
  intro pins s σ H xs us Q I r ⟨ds, Z, φ, st, rs, rdd, af⟩
  unfold int1O at af
  split at af
  · obtain ⟨v, rfl, rd⟩ := rdd.one
    obtain rfl := fz_int rd
    exact call_int1 pins s σ H _ us Q I r (.inl ⟨_, rfl, af.here rs rep_int⟩)
  · obtain ⟨v, rfl, rd⟩ := rdd.one
    obtain rfl := fz_bl rd
    exact call_int1 pins s σ H _ us Q I r (.inr ⟨_, rfl, af.here rs rep_int⟩)
  · exact af.elim
theorem c_list : CallR X (.type "list") (rMA X.K W listO) := by
  intro pins s σ H xs us Q I r ⟨ds, Z, φ, st, rs, rdd, af⟩
  unfold listO at af
  split at af
  · obtain ⟨v, rfl, rd⟩ := rdd.one
    split at af
    · rename_i ys e
      obtain ⟨p, e1, e2⟩ := Option.bind_eq_some_iff.mp e
      obtain ⟨a, vs, rfl, h2, h3⟩ := pk_items (peek_pk rs e1 rd) e2
      exact call_list_of pins s σ H _ us Q I r ⟨a, vs, rfl, h2, fun l hl => af.lst rs hl h3⟩
    · exact af.elim
  · exact af.elim
end
def ixO (d e : D) (st : Sr) : R (D × Sr) := match peek st d, e with
  | some p, .fz (.int i) => match (itemsP p).bind fun xs => atI xs i with
    | some q => .ok (.fz q, st)
    | none => .stuck
  | _, _ => .stuck
/-- a slice's part -/
abbrev DO := Et → Sr → R (Option Int × Sr)
def dNoPart : DO := fun _ st => .ok (none, st)
def dPart (f : DE) : DO := fun η st => (f η st).bind fun a => match a.1 with
  | .fz (.int i) => .ok (some i, a.2)
  | _ => .stuck
def cutP (xs : List P) (lo hi : Option Int) : List P := (xs.drop (HT.sIx xs.length 0 lo)).take (HT.sIx xs.length xs.length hi - HT.sIx xs.length 0 lo)
def slO (d : D) (lo hi : Option Int) (st : Sr) : R (D × Sr) := match peek st d with
  | some (.tup xs) => .ok (.fz (.tup (cutP xs lo hi)), st)
  | some (.lst xs) => .ok (.cell st.length, st ++ [.lst (cutP xs lo hi)])
  | some (.rol xs) => .ok (.cell st.length, st ++ [.lst (cutP xs lo hi)])
  | _ => .stuck
def dSl (f : DE) (l u : DO) : DE := fun η st => (f η st).bind fun a => (l η a.2).bind fun b => (u η b.2).bind fun c => slO a.1 b.1 c.1 c.2
section
variable {X : Cx} {W : WX} {a b e : Expr} {pos p2 : Pos} {f g : DE}
theorem i_ix : IxR X (rM X.K W ixO) := by
  intro value slice pins s σ H x y v u Q I rx ry ⟨d, e, Z, φ, st, rs, rd, re, af⟩ hs
  unfold ixO at af
  split at af
  · rename_i p i e1
    obtain rfl := fz_int re
    split at af
    · rename_i q e2
      obtain ⟨xs, e3, e4⟩ := Option.bind_eq_some_iff.mp e2
      obtain ⟨a, vs, rfl, h2, h3⟩ := pk_items (peek_pk rs e1 rd) e3
      obtain ⟨w, hw, rw'⟩ := h3.atI e4
      have qq := af.here rs (show RepD X.K Z φ (.fz q) w from rw')
      rcases h2 with h2 | h2
      · exact ix_list value slice pins s σ H _ _ v u Q I rx ry ⟨a, vs, i, w, rfl, rfl, h2, hw, qq⟩ hs
      · exact ix_tup value slice pins s σ H _ _ v u Q I rx ry ⟨a, vs, i, w, rfl, rfl, h2, hw, qq⟩ hs
    · exact af.elim
  · exact af.elim
theorem de_ix {o : D → D → Sr → R (D × Sr)} (hr : IxR X (rM X.K W o)) (ha : PE X a (tE X.K W f)) (hb : PE X b (tE X.K W g)) (hs : PlainIx b := by exact fun _ _ => rfl) : PE X (.Subscript a b pos) (tE X.K W (dBin o f g)) := by
  refine (pe_ix hr ha hb hs).to fun σ H Q h => ?_
  obtain ⟨Z, φ, η, st, rs, sl, af⟩ := h
  refine ⟨Z, φ, η, st, rs, sl, af.bind.mono fun a Z' φ' H' t g' rs' v r => ?_⟩
  refine ⟨Z', φ', η, a.2, rs', sl.mono t, g'.bind.mono fun b Z2 φ2 H2 t2 g2 rs2 u r2 => ?_⟩
  exact ⟨a.1, b.1, Z2, φ2, b.2, rs2, r.mono t2.hz t2.app, r2, g2⟩
def GO (K : PySem.W.Frag) (Q : Option Int → Hp → Prop) : (Option Int × Sr) → Hp → List Addr → Hp → Prop := fun r Z' φ' H' => RS K Z' φ' r.2 H' → Q r.1 H'
def tO (K : PySem.W.Frag) (W : WX) (f : DO) : TO := fun σ H Q => Rd4 K W f σ H (GO K Q)
theorem do_none : PO X none (tO X.K W dNoPart) := ⟨fun pins s σ H Q I ⟨Z, φ, η, st, rs, sl, af⟩ => po_none.run pins s σ H Q I (af _ _ _ .refl rs)⟩
theorem do_some (h : PE X e (tE X.K W f)) : PO X (some e) (tO X.K W (dPart f)) := by
  refine ⟨fun pins s σ H Q I ⟨Z, φ, η, st, rs, sl, af⟩ => (po_some h).run pins s σ H Q I ⟨Z, φ, η, st, rs, sl, af.bind.mono fun a Z' φ' H' t g' rs' v r => ?_⟩⟩
  split at g'
  · rename_i i e
    rw [e] at r
    exact ⟨i, fz_int r, g' _ _ _ .refl rs'⟩
  · exact g'.elim
theorem s_sl : SlR X (fun x lo hi H Q => ∃ d, ∃ Z φ st, RS X.K Z φ st H ∧ RepD X.K Z φ d x ∧ Af X.K W Z φ H (slO d lo hi st) (GE X.K Q)) := by
  intro pins s σ H x v vl vu lo hi sl Q I rx hs pl pu ⟨d, Z, φ, st, rs, rd, af⟩
  unfold slO at af
  have cut : ∀ {Z' : Hp} {xs : List P} {vs : List V}, Reps X.K Z' xs vs → Reps X.K Z' (cutP xs lo hi) (cutV vs lo hi) := fun {Z' xs vs} h => by
    unfold cutP cutV
    rw [h.length]
    exact h.drop.take
  split at af
  · rename_i xs e
    obtain ⟨a, vs, rfl, h2, h3⟩ := peek_pk rs e rd
    refine sl_tupA pins s σ H _ v vl vu lo hi sl Q I rx hs pl pu ⟨a, vs, rfl, h2, fun hw => ?_, fun _ p hp => ?_⟩
    · have ec : cutP xs lo hi = xs := by
        unfold cutP
        rw [h3.length, hw.1, hw.2, ← h3.length]
        simp
      rw [ec] at af
      exact af.here rs (o_add.peek_rep' rs e rd)
    · exact af.newZ rs hp fun sz => by rw [Rep]; exact ⟨p, _, rfl, .inl (.inl upd_same), (cut h3).mono sz⟩
  · rename_i xs e
    obtain ⟨a, vs, rfl, h2, h3⟩ := peek_pk rs e rd
    exact sl_list pins s σ H _ v vl vu lo hi sl Q I rx hs pl pu ⟨a, vs, rfl, SqL.of h2, fun p hp => af.lst rs hp (cut h3)⟩
  · rename_i xs e
    obtain ⟨a, vs, rfl, h2, h3⟩ := peek_pk rs e rd
    exact sl_list pins s σ H _ v vl vu lo hi sl Q I rx hs pl pu ⟨a, vs, rfl, h2, fun p hp => af.lst rs hp (cut h3)⟩
  · exact af.elim
theorem de_sl {lo hi : Option Expr} {l u : DO} (ha : PE X a (tE X.K W f)) (hl : PO X lo (tO X.K W l)) (hu : PO X hi (tO X.K W u)) : PE X (.Subscript a (.Slice lo hi none p2) pos) (tE X.K W (dSl f l u)) := by
  refine (pe_slice (s_sl (W := W)) ha hl hu).to fun σ H Q h => ?_
  obtain ⟨Z, φ, η, st, rs, sl, af⟩ := h
  refine ⟨Z, φ, η, st, rs, sl, af.bind.mono fun a Z' φ' H' t g' rs' v r => ?_⟩
  refine ⟨Z', φ', η, a.2, rs', sl.mono t, g'.bind.mono fun b Z2 φ2 H2 t2 g2 rs2 => ?_⟩
  refine ⟨Z2, φ2, η, b.2, rs2, (sl.mono t).mono t2, g2.bind.mono fun c Z3 φ3 H3 t3 g3 rs3 => ?_⟩
  exact ⟨a.1, Z3, φ3, c.2, rs3, (r.mono t2.hz t2.app).mono t3.hz t3.app, g3⟩
end
def isLst (st : Sr) (d : D) : Bool := match peek st d with
  | some (.lst _) => true
  | _ => false
def dBM (ty : Sr → D → Bool) (o : D → List D → Sr → R (D × Sr)) (f : DE) (g : DA) : DE := fun η st => (f η st).bind fun a => if ty a.2 a.1 = true then (g η a.2).bind fun b => o a.1 b.1 b.2 else .stuck
def appendO (d : D) (ds : List D) (st : Sr) : R (D × Sr) := match ds with
  | [e] => match toP st e with
    | some (p, st') => match d with
      | .cell n => match st'[n]? with
        | some (.lst xs) => if xs.length < szL then .ok (.fz .non, st'.set n (.lst (xs ++ [p]))) else .stuck
        | _ => .stuck
      | _ => .stuck
    | none => .stuck
  | _ => .stuck
def popO (d : D) (ds : List D) (st : Sr) : R (D × Sr) := match ds, d with
  | [], .cell n => match st[n]? with
    | some (.lst xs) => match xs[xs.length - 1]? with
      | some p => .ok (.fz p, st.set n (.lst xs.dropLast))
      | none => .stuck
    | _ => .stuck
  | [.fz (.int i)], .cell n => match st[n]? with
    | some (.lst xs) => match seqIndex? i xs.length with
      | some k => match xs[k]? with
        | some p => if -(2 ^ 63) ≤ i ∧ i < 2 ^ 63 then .ok (.fz p, st.set n (.lst (xs.eraseIdx k))) else .stuck
        | none => .stuck
      | none => .stuck
    | _ => .stuck
  | _, _ => .stuck
def reverseO (d : D) (ds : List D) (st : Sr) : R (D × Sr) := match ds, d with
  | [], .cell n => match st[n]? with
    | some (.lst xs) => .ok (.fz .non, st.set n (.lst xs.reverse))
    | _ => .stuck
  | _, _ => .stuck
section
variable {X : Cx} {W : WX} {o e : Expr} {es : List Expr} {f : DE} {fs : DA} {name : Str} {apos cpos : Pos} {T id : String} {ty : Sr → D → Bool} {op : D → List D → Sr → R (D × Sr)}
theorem isLst_ty {K : PySem.W.Frag} {Z H : Hp} {φ : List Addr} {st : Sr} {d : D} {v : V} (rs : RS K Z φ st H) (r : RepD K Z φ d v) (h : isLst st d = true) : tyV K "list" v H := by
  unfold isLst at h
  split at h
  · rename_i xs e
    obtain ⟨a, vs, rfl, h2, _⟩ := peek_pk rs e r
    exact .inl ⟨rfl, vs, SqL.of h2⟩
  · cases h
theorem de_bm0 (hty' : ∀ {Z H : Hp} {φ : List Addr} {st : Sr} {d : D} {v : V}, RS X.K Z φ st H → RepD X.K Z φ d v → ty st d = true → tyV X.K T v H) (pa : PlainAttrs T) (slot : Slot T name id) (hty : typeOf (.builtin id) = pure (.type "method_descriptor")) (hm : MtR X id (rMM X.K W op)) (ho : PE X o (tE X.K W f))
    (hbase : attributeBase o name X.env (eval o X.env) = eval o X.env := by rfl) (hline : (apos.endLine == cpos.line) = true := by rfl) : PE X (.Call (.Attribute o name apos) [] [] cpos) (tE X.K W (dBM ty op f dNil)) := by
  refine (pe_bm0 pa slot hty hm ho hbase hline).to fun σ H Q h => ?_
  obtain ⟨Z, φ, η, st, rs, sl, af⟩ := h
  refine ⟨Z, φ, η, st, rs, sl, af.bind.mono fun a Z' φ' H' t g' rs' v r => ?_⟩
  split at g'
  · rename_i hc
    exact ⟨hty' rs' r hc, a.1, [], Z', φ', a.2, rs', r, rfl, g'⟩
  · exact g'.elim
theorem de_bm (hty' : ∀ {Z H : Hp} {φ : List Addr} {st : Sr} {d : D} {v : V}, RS X.K Z φ st H → RepD X.K Z φ d v → ty st d = true → tyV X.K T v H) (pa : PlainAttrs T) (slot : Slot T name id) (hty : typeOf (.builtin id) = pure (.type "method_descriptor")) (hm : MtR X id (rMM X.K W op)) (ho : PE X o (tE X.K W f)) (ha : PA X (e :: es) (tA X.K W fs))
    (hbase : attributeBase o name X.env (eval o X.env) = eval o X.env := by rfl)
    (hfew : ((backTo cpos (starEach (e :: es) X.env)).all (fun x => !x.1) && (backToKw cpos (keywordEach [] X.env)).all (fun x => x.1.isSome)
      && decide ((e :: es).length + ([] : List Keyword).length + (if ([] : List Keyword).isEmpty then 0 else 1) < 30)) = true := by rfl)
    (hline : (apos.endLine == cpos.line) = true := by rfl) (hs : starEach (e :: es) X.env = (false, eval e X.env) :: starEach es X.env := by rfl) (hplain : (backTo cpos (starEach es X.env)).any (·.1) = false := by rfl) :
    PE X (.Call (.Attribute o name apos) (e :: es) [] cpos) (tE X.K W (dBM ty op f fs)) := by
  refine (pe_bm pa slot hty hm ho ha hbase hfew hline hs hplain).to fun σ H Q h => ?_
  obtain ⟨Z, φ, η, st, rs, sl, af⟩ := h
  refine ⟨Z, φ, η, st, rs, sl, af.bind.mono fun a Z' φ' H' t g' rs' v r => ?_⟩
  split at g'
  · rename_i hc
    refine ⟨hty' rs' r hc, Z', φ', η, a.2, rs', sl.mono t, g'.bind.mono fun b Z2 φ2 H2 t2 g2 rs2 vs r2 => ?_⟩
    exact ⟨a.1, b.1, Z2, φ2, b.2, rs2, r.mono t2.hz t2.app, r2, g2⟩
  · exact g'.elim
theorem m_append : MtR X "list.append" (rMM X.K W appendO) := by
  intro pins s σ H x xs v us Q I rx rv ⟨d, ds, Z, φ, st, rs, rd, rds, af⟩
  unfold appendO at af
  split at af
  · obtain ⟨w, rfl, re⟩ := rds.one
    split at af
    · rename_i p st' e1
      split at af
      · rename_i n
        obtain ⟨a, ha, rfl⟩ := rd
        split at af
        · rename_i ys e2
          split at af
          · rename_i hz
            obtain ⟨Z2, f2, rs2, q2⟩ := toP_ok rs e1 re
            obtain ⟨hz2, vs, h3, h4⟩ := rs2.cells n a _ ha e2
            refine mt_append pins s σ H _ _ v us Q I rx rv ⟨a, vs, w, rfl, rfl, h3, by rw [← h4.length, ← szL_eq]; exact hz, ?_⟩
            obtain ⟨rs3, s3⟩ := rs2.write (c := .lst (ys ++ [p])) (o := .lst (vs ++ [w])) ha hz2 ⟨hz2, _, upd_same, h4.append (.one q2)⟩ (fun _ _ z => by rw [h3] at z; cases z)
            exact af _ _ _ (f2.step.trans s3) rs3 _ rep_non
          · exact af.elim
        · exact af.elim
      · exact af.elim
    · exact af.elim
  · exact af.elim
theorem m_pop : MtR X "list.pop" (rMM X.K W popO) := by
  intro pins s σ H x xs v us Q I rx rv ⟨d, ds, Z, φ, st, rs, rd, rds, af⟩
  unfold popO at af
  split at af
  · rename_i n
    obtain rfl := rds.zero
    obtain ⟨a, ha, rfl⟩ := rd
    split at af
    · rename_i ys e2
      split at af
      · rename_i p e3
        obtain ⟨hz2, vs, h3, h4⟩ := rs.cells n a _ ha e2
        obtain ⟨w, hw, rw'⟩ := h4.get e3
        refine mt_pop pins s σ H _ _ v us Q I rx rv ⟨a, vs, w, rfl, rfl, h3, by rw [← h4.length]; exact hw, ?_⟩
        obtain ⟨rs3, s3⟩ := rs.write (c := .lst ys.dropLast) (o := .lst vs.dropLast) ha hz2 ⟨hz2, _, upd_same, h4.dropLast⟩ (fun _ _ z => by rw [h3] at z; cases z)
        exact af _ _ _ s3 rs3 _ rw'
      · exact af.elim
    · exact af.elim
  · rename_i i n
    obtain ⟨w0, rfl, re⟩ := rds.one
    obtain rfl := fz_int re
    obtain ⟨a, ha, rfl⟩ := rd
    split at af
    · rename_i ys e2
      split at af
      · rename_i k e3
        split at af
        · rename_i p e4
          split at af
          · rename_i hb
            obtain ⟨hz2, vs, h3, h4⟩ := rs.cells n a _ ha e2
            obtain ⟨w, hw, rw'⟩ := h4.get e4
            refine mt_popAt pins s σ H _ _ v us Q I rx rv ⟨a, vs, i, k, w, rfl, rfl, h3, hb.1, hb.2, by rw [← h4.length]; exact e3, hw, ?_⟩
            obtain ⟨rs3, s3⟩ := rs.write (c := .lst (ys.eraseIdx k)) (o := .lst (vs.eraseIdx k)) ha hz2 ⟨hz2, _, upd_same, by rw [List.eraseIdx_eq_take_drop_succ, List.eraseIdx_eq_take_drop_succ]; exact h4.take.append h4.drop⟩ (fun _ _ z => by rw [h3] at z; cases z)
            exact af _ _ _ s3 rs3 _ rw'
          · exact af.elim
        · exact af.elim
      · exact af.elim
    · exact af.elim
  · exact af.elim
theorem m_reverse : MtR X "list.reverse" (rMM X.K W reverseO) := by
  intro pins s σ H x xs v us Q I rx rv ⟨d, ds, Z, φ, st, rs, rd, rds, af⟩
  unfold reverseO at af
  split at af
  · rename_i n
    obtain rfl := rds.zero
    obtain ⟨a, ha, rfl⟩ := rd
    split at af
    · rename_i ys e2
      obtain ⟨hz2, vs, h3, h4⟩ := rs.cells n a _ ha e2
      refine mt_reverse pins s σ H _ _ v us Q I rx rv ⟨a, vs, rfl, rfl, h3, ?_⟩
      obtain ⟨rs3, s3⟩ := rs.write (c := .lst ys.reverse) (o := .lst vs.reverse) ha hz2 ⟨hz2, _, upd_same, h4.reverse⟩ (fun _ _ z => by rw [h3] at z; cases z)
      exact af _ _ _ s3 rs3 _ rep_non
    · exact af.elim
  · exact af.elim
theorem de_append (ho : PE X o (tE X.K W f)) (ha : PA X [e] (tA X.K W fs)) (hbase : attributeBase o "append" X.env (eval o X.env) = eval o X.env := by rfl)
    (hfew : ((backTo cpos (starEach (e :: []) X.env)).all (fun x => !x.1) && (backToKw cpos (keywordEach [] X.env)).all (fun x => x.1.isSome)
      && decide ((e :: ([] : List Expr)).length + ([] : List Keyword).length + (if ([] : List Keyword).isEmpty then 0 else 1) < 30)) = true := by rfl)
    (hline : (apos.endLine == cpos.line) = true := by rfl) (hs : starEach (e :: []) X.env = (false, eval e X.env) :: starEach [] X.env := by rfl) (hplain : (backTo cpos (starEach [] X.env)).any (·.1) = false := by rfl) :
    PE X (.Call (.Attribute o "append" apos) [e] [] cpos) (tE X.K W (dBM isLst appendO f fs)) := de_bm isLst_ty PySem.F.plainAttrs_list PySem.F.slot_list_append PySem.F.type_list_append m_append ho ha hbase hfew hline hs hplain
theorem de_pop0 (ho : PE X o (tE X.K W f)) (hbase : attributeBase o "pop" X.env (eval o X.env) = eval o X.env := by rfl) (hline : (apos.endLine == cpos.line) = true := by rfl) :
    PE X (.Call (.Attribute o "pop" apos) [] [] cpos) (tE X.K W (dBM isLst popO f dNil)) := de_bm0 isLst_ty PySem.F.plainAttrs_list PySem.F.slot_list_pop PySem.F.type_list_pop m_pop ho hbase hline
theorem de_reverse (ho : PE X o (tE X.K W f)) (hbase : attributeBase o "reverse" X.env (eval o X.env) = eval o X.env := by rfl) (hline : (apos.endLine == cpos.line) = true := by rfl) :
    PE X (.Call (.Attribute o "reverse" apos) [] [] cpos) (tE X.K W (dBM isLst reverseO f dNil)) := de_bm0 isLst_ty PySem.F.plainAttrs_list PySem.F.slot_list_reverse PySem.F.type_list_reverse m_reverse ho hbase hline
end
end M
end
section
set_option Elab.async false
set_option linter.all false
set_option maxRecDepth 100000
set_option maxHeartbeats 0
namespace M
open PySem L2
def dSkip : DS := fun η st => .ok (.nx, η, st)
def dSeq (f g : DS) : DS := fun η st => (f η st).bind fun r => match r.1 with
  | .nx => g r.2.1 r.2.2
  | .rt d => .ok (.rt d, r.2.1, r.2.2)
  | .bk => .ok (.bk, r.2.1, r.2.2)
  | .ct => .ok (.ct, r.2.1, r.2.2)
def dEx (f : DE) : DS := fun η st => (f η st).bind fun a => .ok (.nx, η, a.2)
def dRet (f : DE) : DS := fun η st => (f η st).bind fun a => .ok (.rt a.1, η, a.2)
def dBrk : DS := fun η st => .ok (.bk, η, st)
def dIf (t : DT) (f g : DS) : DS := fun η st => (t η st).bind fun a => if a.1 = true then f η a.2 else g η a.2
/-- targets -/
abbrev DG := D → Et → Sr → Option Et
def gNm (i : Nat) : DG := fun d η _ => some (η.set i (some d))
def bindAll : List DG → List P → Et → Sr → Option Et
  | [], [], η, _ => some η
  | g :: gs, p :: ps, η, st => (g (.fz p) η st).bind fun η1 => bindAll gs ps η1 st
  | _, _, _, _ => none
def gTp (gs : List DG) : DG := fun d η st => match peek st d with
  | some (.tup ps) => bindAll gs ps η st
  | _ => none
def dAsg (f : DE) (g : DG) : DS := fun η st => (f η st).bind fun a => match g a.1 η a.2 with
  | some η1 => .ok (.nx, η1, a.2)
  | none => .stuck
def tG (K : PySem.W.Frag) (g : DG) : TG := fun v σ H Q => ∃ Z φ η st d, RS K Z φ st H ∧ Slots K Z φ η σ ∧ RepD K Z φ d v ∧ ∃ η', g d η st = some η' ∧ ∀ σ', Slots K Z φ η' σ' → Q σ' H
def tGs (K : PySem.W.Frag) (gs : List DG) : TGs := fun vs σ H Q => ∃ Z φ η st ps, RS K Z φ st H ∧ Slots K Z φ η σ ∧ Reps K Z ps vs ∧ ∃ η', bindAll gs ps η st = some η' ∧ ∀ σ', Slots K Z φ η' σ' → Q σ' H
section
variable {X : Cx} {W : WX} {a e : Expr} {es : List Expr} {st : Stmt} {rest b c : List Stmt} {pos : Pos} {f : DE} {t : DT} {g h : DS}
theorem _root_.L2.PG.to {e : Expr} {t t' : TG} (h : PG X e t) (i : ∀ v σ H Q, t' v σ H Q → t v σ H Q) : PG X e t' := ⟨fun pins s σ H v u Q I r q => h.run pins s σ H v u Q I r (i v σ H Q q)⟩
theorem _root_.L2.PGs.to {e : List Expr} {t t' : TGs} (h : PGs X e t) (i : ∀ v σ H Q, t' v σ H Q → t v σ H Q) : PGs X e t' := ⟨fun pins s σ H v u Q I r q => h.run pins s σ H v u Q I r (i v σ H Q q)⟩
theorem dg_name {i : Nat} {x : Str} (hN : X.N.Nodup) (hi : X.N[i]? = some x := by rfl) (hx : Loc X.env.scope x := by first | exact Or.inl rfl | exact Or.inr rfl) (hf : X.fn x = true ∨ X.env.scope.names.lookup x = some .local := by first | exact .inl rfl | exact .inr rfl | assumption) : PG X (.Name x pos) (tG X.K (gNm i)) := by
  refine (pg_name (i := i) hN hi hx hf).to fun v σ H Q h => ?_
  obtain ⟨Z, φ, η, st, d, rs, sl, r, η', e, q⟩ := h
  cases e
  exact q _ (sl.set r)
theorem dgs_nil : PGs X [] (tGs X.K []) := by
  refine pgs_nil.to fun v σ H Q h => ?_
  obtain ⟨Z, φ, η, st, ps, rs, sl, r, η', e, q⟩ := h
  cases ps with
  | nil => cases e; rw [Reps] at r; exact ⟨r, q _ sl⟩
  | cons p ps => cases e
theorem dgs_cons {g : DG} {gs : List DG} (h1 : PG X e (tG X.K g)) (h2 : PGs X es (tGs X.K gs)) (hs : (assignEach (e :: es) X.env).map (·.2) = assign e X.env :: (assignEach es X.env).map (·.2) := by rfl) : PGs X (e :: es) (tGs X.K (g :: gs)) := by
  refine (pgs_cons h1 h2 hs).to fun v σ H Q h => ?_
  obtain ⟨Z, φ, η, st, ps, rs, sl, r, η', e, q⟩ := h
  cases ps with
  | nil => cases e
  | cons p ps =>
    rw [Reps] at r
    obtain ⟨v, ws, rfl, r1, r2⟩ := r
    obtain ⟨η1, e1, e2⟩ := Option.bind_eq_some_iff.mp (show ((g (.fz p) η st).bind fun η1 => bindAll gs ps η1 st) = some η' from e)
    exact ⟨v, ws, rfl, Z, φ, η, st, .fz p, rs, sl, r1, η1, e1, fun σ' sl' => ⟨Z, φ, η1, st, ps, rs, sl', r2, η', e2, q⟩⟩
theorem bindAll_len : ∀ {gs : List DG} {ps : List P} {η η' : Et} {st : Sr}, bindAll gs ps η st = some η' → ps.length = gs.length
  | [], [], _, _, _, _ => rfl
  | [], _ :: _, _, _, _, h => by cases h
  | _ :: _, [], _, _, _, h => by cases h
  | g :: gs, p :: ps, η, η', st, h => by
    obtain ⟨η1, e1, e2⟩ := Option.bind_eq_some_iff.mp (show ((g (.fz p) η st).bind fun η1 => bindAll gs ps η1 st) = some η' from h)
    simp [bindAll_len e2]
theorem dg_tup {gs : List DG} {k : Nat} (hc : X.calm = true) (h : PGs X es (tGs X.K gs)) (hn : (assignEach es X.env).length = gs.length := by rfl) (hst : (assignEach es X.env).findIdx? (·.1) = none := by rfl) : PG X (.Tuple es k pos) (tG X.K (gTp gs)) := by
  refine (pg_tup hc h hn hst).to fun v σ H Q h => ?_
  obtain ⟨Z, φ, η, st, d, rs, sl, r, η', e, q⟩ := h
  unfold gTp at e
  split at e
  · rename_i ps e1
    obtain ⟨a, vs, rfl, h2, h3⟩ := peek_pk rs e1 r
    exact ⟨a, vs, rfl, h2, by rw [← h3.length]; exact bindAll_len e, Z, φ, η, st, ps, rs, sl, h3, η', e, q⟩
  · cases e
theorem ds_nil : PSs X [] (tS X.K W dSkip) := pss_nil.to fun D σ H ⟨Z, φ, η, st, rs, sl, af⟩ => af _ _ _ .refl rs σ sl
theorem ds_brk : PS X (.Break pos) (tS X.K W dBrk) := ps_break.to fun D σ H ⟨Z, φ, η, st, rs, sl, af⟩ => af _ _ _ .refl rs σ sl
theorem ds_one (h1 : PS X st (tS X.K W g)) : PSs X [st] (tS X.K W g) := pss_one h1
theorem ds_cons (h1 : PS X st (tS X.K W g)) (h2 : PSs X rest (tS X.K W h)) : PSs X (st :: rest) (tS X.K W (dSeq g h)) := by
  refine (pss_cons h1 h2).to fun D σ H hh => ?_
  obtain ⟨Z, φ, η, st, rs, sl, af⟩ := hh
  refine ⟨Z, φ, η, st, rs, sl, af.bind.mono fun r Z' φ' H' t g' rs' => ?_⟩
  obtain ⟨fl, η1, st1⟩ := r
  cases fl with
  | nx => exact fun σ' sl' => ⟨Z', φ', η1, st1, rs', sl', g'⟩
  | rt d => exact g' _ _ _ .refl rs'
  | bk => exact g' _ _ _ .refl rs'
  | ct => exact g' _ _ _ .refl rs'
theorem ds_expr (he : PE X e (tE X.K W f)) (hs : swapsWith e none pos.line X.env = pure false := by rfl) : PS X (.Expr e pos) (tS X.K W (dEx f)) := by
  refine (ps_expr he hs).to fun D σ H hh => ?_
  obtain ⟨Z, φ, η, st, rs, sl, af⟩ := hh
  exact ⟨Z, φ, η, st, rs, sl, af.bind.mono fun a Z' φ' H' t g' rs' v r => g' _ _ _ .refl rs' σ (sl.mono t)⟩
theorem ds_ret (he : PE X e (tE X.K W f)) : PS X (.Return (some e) pos) (tS X.K W (dRet f)) := by
  refine (ps_ret he).to fun D σ H hh => ?_
  obtain ⟨Z, φ, η, st, rs, sl, af⟩ := hh
  exact ⟨Z, φ, η, st, rs, sl, af.bind.mono fun a Z' φ' H' t g' rs' v r => g' _ _ _ .refl rs' v r⟩
theorem ds_if {c : Expr} {a b : List Stmt} (hc : PT X c (tT X.K W t)) (ha : PSs X a (tS X.K W g)) (hb : PSs X b (tS X.K W h)) : PS X (.If c a b pos) (tS X.K W (dIf t g h)) := by
  refine (ps_if hc ha hb).to fun D σ H hh => ?_
  obtain ⟨Z, φ, η, st, rs, sl, af⟩ := hh
  refine ⟨Z, φ, η, st, rs, sl, af.bind.mono fun a Z' φ' H' t g' rs' => ?_⟩
  split at g'
  · rename_i hc; rw [if_pos hc]; exact ⟨Z', φ', η, a.2, rs', sl.mono t, g'⟩
  · rename_i hc; rw [if_neg hc]; exact ⟨Z', φ', η, a.2, rs', sl.mono t, g'⟩
theorem ds_set {i : Nat} {x : Str} {pos' : Pos} (hN : X.N.Nodup) (he : PE X e (tE X.K W f)) (hi : X.N[i]? = some x := by rfl) (hx : Loc X.env.scope x := by first | exact Or.inl rfl | exact Or.inr rfl) (hs : swapsWith e (some (.Name x pos')) pos.line X.env = pure false := by rfl) (hf : X.fn x = true ∨ X.env.scope.names.lookup x = some .local := by first | exact .inl rfl | exact .inr rfl | assumption) :
    PS X (.Assign [.Name x pos'] e pos) (tS X.K W (dAsg f (gNm i))) := by
  refine (ps_set (i := i) hN hi hx he hs hf).to fun D σ H hh => ?_
  obtain ⟨Z, φ, η, st, rs, sl, af⟩ := hh
  exact ⟨Z, φ, η, st, rs, sl, af.bind.mono fun a Z' φ' H' t g' rs' v r => g' _ _ _ .refl rs' _ ((sl.mono t).set r)⟩
theorem ds_asg {tg : Expr} {g : DG} (he : PE X e (tE X.K W f)) (hg : PG X tg (tG X.K g)) (hs : swapsWithSole [tg] e pos.line X.env = pure false := by rfl) (hw : swappedStores [tg] e X.env = pure none := by rfl)
    (hx : (assignEach [tg] X.env).map (·.2) = [assign tg X.env] := by rfl) : PS X (.Assign [tg] e pos) (tS X.K W (dAsg f g)) := by
  refine (ps_asg he hg hs hw hx).to fun D σ H hh => ?_
  obtain ⟨Z, φ, η, st, rs, sl, af⟩ := hh
  refine ⟨Z, φ, η, st, rs, sl, af.bind.mono fun a Z' φ' H' t g' rs' v r => ?_⟩
  split at g'
  · rename_i η1 e1
    exact ⟨Z', φ', η, a.2, a.1, rs', sl.mono t, r, η1, e1, fun σ' sl' => g' _ _ _ .refl rs' _ sl'⟩
  · exact g'.elim
end
def loopD (g : DG) (b : DS) : List P → Et → Sr → R (Fl × Et × Sr)
  | [], η, st => .ok (.nx, η, st)
  | x :: xs, η, st => match g (.fz x) η st with
    | none => .stuck
    | some η1 => (b η1 st).bind fun r => match r.1 with
      | .nx => loopD g b xs r.2.1 r.2.2
      | .ct => loopD g b xs r.2.1 r.2.2
      | .bk => .ok (.nx, r.2.1, r.2.2)
      | .rt d => .ok (.rt d, r.2.1, r.2.2)
def dForL (f : DE) (g : DG) (b : DS) : DS := fun η st => (f η st).bind fun a => match toP a.2 a.1 with
  | some (p, st') => match itemsP p with
    | some xs => loopD g b xs η st'
    | none => .stuck
  | none => .stuck
def rangeP (lo : Int) (n : Nat) : List P := (List.range n).map fun i : Nat => P.int (lo + i)
def dForR1 (f : DA) (g : DG) (b : DS) : DS := fun η st => (f η st).bind fun a => match a.1 with
  | [.fz (.int j)] => if -(2 ^ 62) ≤ j ∧ j < 2 ^ 62 then loopD g b (rangeP 0 j.toNat) η a.2 else .stuck
  | _ => .stuck
def enumP (k : Nat) : List P → List P
  | [] => []
  | p :: ps => .tup [.int k, p] :: enumP (k + 1) ps
def dForE (f : DA) (g : DG) (b : DS) : DS := fun η st => (f η st).bind fun a => match a.1 with
  | [d] => match toP a.2 d with
    | some (.lst xs, st') => loopD g b (enumP 0 xs) η st'
    | some (.rol xs, st') => loopD g b (enumP 0 xs) η st'
    | _ => .stuck
  | _ => .stuck
section
variable {K : PySem.W.Frag} {W : WX} {g : DG} {b : DS} {D : Ends}
def LpI (K : PySem.W.Frag) (W : WX) (g : DG) (b : DS) (D : Ends) (Ex : Hp → Prop) (ys : List P) (σ : St) (H : Hp) : Prop :=
  ∃ Z φ η st, RS K Z φ st H ∧ Slots K Z φ η σ ∧ Ex Z ∧ Af K W Z φ H (loopD g b ys η st) (GS K D)
theorem LpI.turn {Ex : Hp → Prop} (hm : ∀ Z Z', Same Z Z' → Ex Z → Ex Z') {p : P} {ys : List P} {σ : St} {H : Hp} {v : V} (h : LpI K W g b D Ex (p :: ys) σ H) (hv : ∀ Z, Same Z H → Ex Z → Rep K Z p v) :
    tG K g v σ H (fun σ2 H2 => tS K W b { D with nx := LpI K W g b D Ex ys, ct := LpI K W g b D Ex ys, bk := D.nx } σ2 H2) := by
  obtain ⟨Z, φ, η, st, rs, sl, ex, af⟩ := h
  unfold loopD at af
  split at af
  · exact af.elim
  · rename_i η1 e1
    refine ⟨Z, φ, η, st, .fz p, rs, sl, hv Z rs.same ex, η1, e1, fun σ2 sl2 => ⟨Z, φ, η1, st, rs, sl2, af.bind.mono fun r Z' φ' H' t g' rs' => ?_⟩⟩
    obtain ⟨fl, η2, st2⟩ := r
    cases fl with
    | nx => exact fun σ' sl' => ⟨Z', φ', η2, st2, rs', sl', hm _ _ t.hz ex, g'⟩
    | ct => exact fun σ' sl' => ⟨Z', φ', η2, st2, rs', sl', hm _ _ t.hz ex, g'⟩
    | bk => exact g' _ _ _ .refl rs'
    | rt d => exact g' _ _ _ .refl rs'
theorem LpI.done {Ex : Hp → Prop} {σ : St} {H : Hp} (h : LpI K W g b D Ex [] σ H) : D.nx σ H := by
  obtain ⟨Z, φ, η, st, rs, sl, ex, af⟩ := h
  exact af _ _ _ .refl rs _ sl
theorem LpI.same {Ex : Hp → Prop} {ys : List P} {σ : St} {H : Hp} (h : LpI K W g b D Ex ys σ H) : ∃ Z, Same Z H ∧ Ex Z := by
  obtain ⟨Z, φ, η, st, rs, sl, ex, af⟩ := h
  exact ⟨Z, rs.same, ex⟩
theorem drop_cons {α : Type} {xs : List α} {i : Nat} {x : α} (h : xs[i]? = some x) : xs.drop i = x :: xs.drop (i + 1) := by
  obtain ⟨hl, rfl⟩ := List.getElem?_eq_some_iff.mp h
  exact List.drop_eq_getElem_cons hl
end
section
variable {X : Cx} {W : WX} {tg l : Expr} {body : List Stmt} {pos p : Pos} {f : DE} {fs : DA} {g : DG} {b : DS}
/-- a list or a tuple, walked -/
theorem pi_seq {tl : TE} (hl : PE X l tl) : PI X tg l (fun σ H R => tl σ H fun x H1 => ∃ a, x = .ref a ∧ (((∃ xs, SqL X.K H1 a xs) ∧ R (Itl X.K a) H1) ∨ ((∃ xs, SqT X.K H1 a xs) ∧ R (Itt X.K a) H1))) := by
  refine ⟨fun pins s σ H R I h => ?_⟩
  refine thn (hl.run pins s σ H _ I h) fun v s1 ⟨x, H1, I1, r1, q1⟩ => ?_
  obtain ⟨a, e, q1⟩ := q1
  subst e
  cases r1
  rcases q1 with ⟨⟨xs, hq⟩, q⟩ | ⟨⟨xs, hq⟩, q⟩
  · obtain ⟨its, rv, p, hz⟩ := I1.list hq
    refine wpAny_pyIter_list p.isList ?_
    refine ⟨s1.heap.objs.size, [s1.heap.objs.size], _, _, H1, rfl, I1.kept (t' := s1.toks) fun b o e => Heap.get?_push_of_some _ e, turn_list a _, ⟨_, Heap.get?_push_size _ rfl, rfl, rfl⟩, fun b hb => ?_, q⟩
    have e : b = s1.heap.objs.size := by simpa using hb
    subst e
    exact I1.fpOk (Nat.le_refl _) (I1.hok.fresh (Nat.le_refl _))
  · obtain ⟨its, rv, p, hz⟩ := I1.tuple hq
    refine wpAny_pyIter_tuple (show s1.heap.IsTuple a its.toArray from p) ?_
    refine ⟨s1.heap.objs.size, [s1.heap.objs.size], _, _, H1, rfl, I1.kept (t' := s1.toks) fun b o e => Heap.get?_push_of_some _ e, turn_tuple a _, ⟨_, Heap.get?_push_size _ rfl, rfl, rfl⟩, fun b hb => ?_, q⟩
    have e : b = s1.heap.objs.size := by simpa using hb
    subst e
    exact I1.fpOk (Nat.le_refl _) (I1.hok.fresh (Nat.le_refl _))
theorem pk_itemsZ {K : PySem.W.Frag} {Z : Hp} {p : P} {v : V} {xs : List P} (h : Rep K Z p v) (e : itemsP p = some xs) : ∃ a vs, v = .ref a ∧ (SqL K Z a vs ∨ SqT K Z a vs) ∧ Reps K Z xs vs := pk_items (Rep.pk (Same.refl _) h) e
theorem ds_for (hp : PassesOwn (model X.prog X.w) X.A X.env X.xe) (hc : X.calm = true) (hl : PE X l (tE X.K W f)) (hg : PG X tg (tG X.K g)) (hb : PSs X body (tS X.K W b)) (hs : ∀ x, foldedSetIterable l X.env x = pure x := by intro _; rfl) :
    PS X (.For tg l body [] pos) (tS X.K W (dForL f g b)) := by
  refine (ps_for hp hc (pi_seq hl) hg hb hs).to fun D σ H hh => ?_
  obtain ⟨Z, φ, η, st, rs, sl, af⟩ := hh
  refine ⟨Z, φ, η, st, rs, sl, af.bind.mono fun a Z' φ' H' t g' rs' v r => ?_⟩
  split at g'
  · rename_i p st' e1
    split at g'
    · rename_i xs e2
      obtain ⟨Z2, f2, rs2, q2⟩ := toP_ok rs' e1 r
      obtain ⟨a', vs, rfl, h2, h3⟩ := pk_itemsZ q2 e2
      have af2 := g'.later f2.step
      rcases h2 with h2 | h2
      · refine ⟨a', rfl, .inl ⟨⟨vs, rs2.same.seq h2⟩, ?_⟩⟩
        refine for_list (K := X.K) (a := a') (xs := vs) (fun i σ' H' => LpI X.K W g b D (fun Z => SqL X.K Z a' vs ∧ Reps X.K Z xs vs) (xs.drop i) σ' H') ⟨Z2, φ', η, st', rs2, (sl.mono t).mono f2.step, ⟨h2, h3⟩, by rw [List.drop_zero]; exact af2⟩ (fun i σ' H' _ hh => ?_) (fun i x σ' H' hx hh => ?_) (fun σ' H' hh => ?_)
        · obtain ⟨Z3, s3, e3, _⟩ := hh.same; exact s3.seq e3
        · have hl : i < xs.length := by rw [h3.length]; exact (List.getElem?_eq_some_iff.mp hx).1
          rw [drop_cons (List.getElem?_eq_getElem hl)] at hh
          refine hh.turn (fun Z Z' s ⟨e1, e2⟩ => ⟨s.seq e1, e2.mono s⟩) fun Z _ ⟨_, e2⟩ => ?_
          obtain ⟨v, hv, rv⟩ := e2.get (List.getElem?_eq_getElem hl)
          rw [hx] at hv; cases hv; exact rv
        · rw [← h3.length, List.drop_length] at hh
          exact hh.done
      · refine ⟨a', rfl, .inr ⟨⟨vs, same_sqT rs2.same h2⟩, ?_⟩⟩
        refine for_tup (K := X.K) (a := a') (xs := vs) (fun i σ' H' => LpI X.K W g b D (fun Z => SqT X.K Z a' vs ∧ Reps X.K Z xs vs) (xs.drop i) σ' H') ⟨Z2, φ', η, st', rs2, (sl.mono t).mono f2.step, ⟨h2, h3⟩, by rw [List.drop_zero]; exact af2⟩ (fun i σ' H' _ hh => ?_) (fun i x σ' H' hx hh => ?_) (fun σ' H' hh => ?_)
        · obtain ⟨Z3, s3, e3, _⟩ := hh.same; exact same_sqT s3 e3
        · have hl : i < xs.length := by rw [h3.length]; exact (List.getElem?_eq_some_iff.mp hx).1
          rw [drop_cons (List.getElem?_eq_getElem hl)] at hh
          refine hh.turn (fun Z Z' s ⟨e1, e2⟩ => ⟨same_sqT s e1, e2.mono s⟩) fun Z _ ⟨_, e2⟩ => ?_
          obtain ⟨v, hv, rv⟩ := e2.get (List.getElem?_eq_getElem hl)
          rw [hx] at hv; cases hv; exact rv
        · rw [← h3.length, List.drop_length] at hh
          exact hh.done
    · exact g'.elim
  · exact g'.elim
theorem rangeP_get {lo : Int} {n i : Nat} (h : i < n) : (rangeP lo n)[i]? = some (.int (lo + i)) := by
  unfold rangeP
  rw [List.getElem?_map, List.getElem?_range h]
  rfl
theorem rangeP_len {lo : Int} {n : Nat} : (rangeP lo n).length = n := by unfold rangeP; simp
theorem rng_loop {D : Ends} {σ : St} {H Z : Hp} {φ : List Addr} {η : Et} {st : Sr} {lo : Int} {n : Nat} (rs : RS X.K Z φ st H) (sl : Slots X.K Z φ η σ) (af : Af X.K W Z φ H (loopD g b (rangeP lo n) η st) (GS X.K D)) :
    ∃ W' : Nat → Nat → St → Hp → Prop, (∃ m, W' 0 m σ H) ∧ ∀ i m σ H, W' i m σ H →
      ((Itr lo n).stop i H ∧ D.nx σ H) ∨ ((Itr lo n).go i H ∧ ∃ N : St → Hp → Prop, (∀ σ' H', N σ' H' → ∃ m', m' < m ∧ W' (i + 1) m' σ' H') ∧ ∀ x H', (Itr lo n).yld i H x H' → tG X.K g x σ H' fun σ2 H2 => tS X.K W b { D with nx := N, ct := N, bk := D.nx } σ2 H2) := by
  refine for_range (lo := lo) (n := n) (fun i σ' H' => LpI X.K W g b D (fun _ => True) ((rangeP lo n).drop i) σ' H') ⟨Z, φ, η, st, rs, sl, trivial, by rw [List.drop_zero]; exact af⟩ (fun i σ' H' hi hh => ?_) (fun σ' H' hh => ?_)
  · rw [drop_cons (rangeP_get hi)] at hh
    exact hh.turn (fun _ _ _ _ => trivial) fun Z _ _ => by rw [Rep]
  · rw [List.drop_eq_nil_of_le (by rw [rangeP_len]; exact Nat.le_refl _)] at hh
    exact hh.done
theorem ds_forR1 {a : Expr} {pos' : Pos} (hp : PassesOwn (model X.prog X.w) X.A X.env X.xe) (hc : X.calm = true) (hgl : Gl X "range") (hm : X.mg "range" = none) (ha : PA X [a] (tA X.K W fs)) (hg : PG X tg (tG X.K g)) (hb : PSs X body (tS X.K W b)) (hss : starEach [a] X.env = [(false, eval a X.env)] := by rfl)
    (hs : ∀ x, foldedSetIterable (.Call (.Name "range" p) [a] [] pos) X.env x = pure x := by intro _; rfl) :
    PS X (.For tg (.Call (.Name "range" p) [a] [] pos) body [] pos') (tS X.K W (dForR1 fs g b)) := by
  refine (ps_for hp hc (pi_range1 hgl hm ha hss) hg hb hs).to fun D σ H hh => ?_
  obtain ⟨Z, φ, η, st, rs, sl, af⟩ := hh
  refine ⟨Z, φ, η, st, rs, sl, af.bind.mono fun a Z' φ' H' t g' rs' vs r => ?_⟩
  split at g'
  · rename_i j ej
    rw [ej] at r
    obtain ⟨v, rfl, rj⟩ := r.one
    obtain rfl := fz_int rj
    split at g'
    · rename_i hz
      refine ⟨j, rfl, hz.1, hz.2, rng_loop rs' (sl.mono t) g'⟩
    · exact g'.elim
  · exact g'.elim
theorem enumP_drop : ∀ (xs : List P) (k i : Nat), (enumP k xs).drop i = enumP (k + i) (xs.drop i)
  | xs, k, 0 => by simp
  | [], k, i + 1 => by simp [enumP]
  | x :: xs, k, i + 1 => by
    show (enumP (k + 1) xs).drop i = enumP (k + (i + 1)) (xs.drop i)
    rw [enumP_drop xs (k + 1) i]
    congr 1; omega
theorem ds_forE {a : Expr} {pos' tpos : Pos} {elts : List Expr} {kk : Nat} (hp : PassesOwn (model X.prog X.w) X.A X.env X.xe) (hc : X.calm = true) (hgl : Gl X "enumerate") (hm : X.mg "enumerate" = none) (ha : PA X [a] (tA X.K W fs)) (hg : PG X (.Tuple elts kk tpos) (tG X.K g)) (hb : PSs X body (tS X.K W b)) (hss : starEach [a] X.env = [(false, eval a X.env)] := by rfl)
    (hs : ∀ x, foldedSetIterable (.Call (.Name "enumerate" p) [a] [] pos) X.env x = pure x := by intro _; rfl) :
    PS X (.For (.Tuple elts kk tpos) (.Call (.Name "enumerate" p) [a] [] pos) body [] pos') (tS X.K W (dForE fs g b)) := by
  refine (ps_for hp hc (pi_enum hgl hm ha hss) hg hb hs).to fun D σ H hh => ?_
  obtain ⟨Z, φ, η, st, rs, sl, af⟩ := hh
  refine ⟨Z, φ, η, st, rs, sl, af.bind.mono fun a Z' φ' H' t g' rs' vs r => ?_⟩
  have main : ∀ {xs : List P} {st' : Sr} {d : M.D} {v : V} {p : P}, toP a.2 d = some (p, st') → itemsP p = some xs → (∀ Z v, Rep X.K Z p v → ∃ a' ws, v = .ref a' ∧ SqL X.K Z a' ws ∧ Reps X.K Z xs ws) → RepD X.K Z' φ' d v → Af X.K W Z' φ' H' (loopD g b (enumP 0 xs) η st') (GS X.K D) →
      ∃ a' xs', [v] = [V.ref a'] ∧ SqL X.K H' a' xs' ∧ ∃ W' : Nat → Nat → St → Hp → Prop, (∃ m, W' 0 m σ H') ∧ ∀ i m σ H, W' i m σ H →
      ((Ite X.K a').stop i H ∧ D.nx σ H) ∨ ((Ite X.K a').go i H ∧ ∃ N : St → Hp → Prop, (∀ σ' H', N σ' H' → ∃ m', m' < m ∧ W' (i + 1) m' σ' H') ∧ ∀ x H', (Ite X.K a').yld i H x H' → tG X.K g x σ H' fun σ2 H2 => tS X.K W b { D with nx := N, ct := N, bk := D.nx } σ2 H2) := by
    intro xs st' d v p e1 e2 hh rd g'
    obtain ⟨Z2, f2, rs2, q2⟩ := toP_ok rs' e1 rd
    obtain ⟨a', ws, rfl, h2, h3⟩ := hh _ _ q2
    refine ⟨a', ws, rfl, rs2.same.seq h2, fun i m σ' H' => m = ws.length - i ∧ i ≤ ws.length ∧ LpI X.K W g b D (fun Z => SqL X.K Z a' ws ∧ Reps X.K Z xs ws) ((enumP 0 xs).drop i) σ' H', ⟨ws.length, by simp, Nat.zero_le _, Z2, φ', η, st', rs2, (sl.mono t).mono f2.step, ⟨h2, h3⟩, by rw [List.drop_zero]; exact g'.later f2.step⟩, ?_⟩
    rintro i m σ' H2 ⟨rfl, hi, hh⟩
    obtain ⟨Z3, s3, e3, e4⟩ := id hh.same
    have sq := s3.seq e3
    by_cases hlt : i < ws.length
    · have hl : i < xs.length := by rw [h3.length]; exact hlt
      refine .inr ⟨⟨ws, ws[i], sq, by simp [hlt]⟩, fun σ3 H3 => LpI X.K W g b D (fun Z => SqL X.K Z a' ws ∧ Reps X.K Z xs ws) ((enumP 0 xs).drop (i + 1)) σ3 H3, fun σ3 H3 q => ⟨ws.length - (i + 1), by omega, rfl, hlt, q⟩, fun x H3 y => ?_⟩
      obtain ⟨T, y0, rfl, hT, rfl, y1⟩ := y
      have hy := y1 ws sq
      rw [enumP_drop, drop_cons (List.getElem?_eq_getElem hl)] at hh
      have ed : enumP (0 + i + 1) (xs.drop (i + 1)) = (enumP 0 xs).drop (i + 1) := by rw [enumP_drop]; congr 1
      have hh2 : LpI X.K W g b D (fun Z => (SqL X.K Z a' ws ∧ Reps X.K Z xs ws) ∧ Rep X.K Z (.tup [.int ((0 + i : Nat) : Int), xs[i]]) (.ref T)) (.tup [.int ((0 + i : Nat) : Int), xs[i]] :: enumP (0 + i + 1) (xs.drop (i + 1))) σ' (upd H2 T (.tup [.int (i : Nat), y0])) := by
        obtain ⟨Z4, φ4, η4, st4, rs4, sl4, ⟨e5, e6⟩, af4⟩ := hh
        obtain ⟨rs5, s5⟩ := rs4.newZ (o := .tup [.int (i : Nat), y0]) hT
        refine ⟨_, φ4, η4, st4, rs5, sl4.mono s5, ⟨⟨s5.hz.seq e5, e6.mono s5.hz⟩, ?_⟩, af4.later s5⟩
        rw [Rep]
        refine ⟨T, _, rfl, .inl (.inl upd_same), .cons (by rw [Rep]; simp) (.one ?_)⟩
        obtain ⟨v, hv, rv⟩ := e6.get (List.getElem?_eq_getElem hl)
        rw [hy] at hv; cases hv
        exact rv.mono s5.hz
      rw [ed] at hh2
      have tn := hh2.turn (fun Z Z' s ⟨⟨e1, e2⟩, e3⟩ => ⟨⟨s.seq e1, e2.mono s⟩, e3.mono s⟩) (v := .ref T) fun Z _ ⟨_, e3⟩ => e3
      obtain ⟨Z6, φ6, η6, st6, d6, rs6, sl6, r6, η7, e7, q7⟩ := tn
      refine ⟨Z6, φ6, η6, st6, d6, rs6, sl6, r6, η7, e7, fun σ7 sl7 => ?_⟩
      obtain ⟨Z8, φ8, η8, st8, rs8, sl8, af8⟩ := q7 σ7 sl7
      refine ⟨Z8, φ8, η8, st8, rs8, sl8, af8.mono fun r Z' φ' H' t g' rs' => ?_⟩
      obtain ⟨fl, η9, st9⟩ := r
      have low : ∀ σ0, LpI X.K W g b D (fun Z => (SqL X.K Z a' ws ∧ Reps X.K Z xs ws) ∧ Rep X.K Z (.tup [.int ((0 + i : Nat) : Int), xs[i]]) (.ref T)) ((enumP 0 xs).drop (i + 1)) σ0 H' → LpI X.K W g b D (fun Z => SqL X.K Z a' ws ∧ Reps X.K Z xs ws) ((enumP 0 xs).drop (i + 1)) σ0 H' := fun σ0 ⟨Z, φ, η, st, r1, r2, r3, r4⟩ => ⟨Z, φ, η, st, r1, r2, r3.1, r4⟩
      have g9 := g' rs'
      cases fl with
      | nx => exact fun σ0 sl0 => low σ0 (g9 σ0 sl0)
      | ct => exact fun σ0 sl0 => low σ0 (g9 σ0 sl0)
      | bk => exact g9
      | rt d => exact g9
    · have e : i = ws.length := by omega
      subst e
      rw [enumP_drop, ← h3.length, List.drop_length] at hh
      exact .inl ⟨⟨ws, sq, Nat.le_refl _⟩, hh.done⟩
  split at g'
  · rename_i d ej
    rw [ej] at r
    obtain ⟨v, rfl, rj⟩ := r.one
    split at g'
    · rename_i xs st' e1
      exact main e1 rfl (fun Z v h => by rw [Rep] at h; obtain ⟨a', ws, e, h2, h3⟩ := h; exact ⟨a', ws, e, SqL.of h2, h3⟩) rj g'
    · rename_i xs st' e1
      exact main e1 rfl (fun Z v h => by rw [Rep] at h; exact h) rj g'
    · exact g'.elim
  · exact g'.elim
end
end M
end
section
set_option Elab.async false
set_option linter.all false
set_option maxRecDepth 100000
set_option maxHeartbeats 0
namespace M
open PySem L2
def cellsD : D → List Nat
  | .cell n => [n]
  | .fz _ => []
def cellsF : List (Str × D) → List Nat
  | [] => []
  | (_, d) :: fs => cellsD d ++ cellsF fs
def cellsA : List D → List Nat
  | [] => []
  | d :: ds => cellsD d ++ cellsA ds
def cellsC : Ct → List Nat
  | .obj _ fs => cellsF fs
  | .lsD xs => cellsA xs
  | .tuD xs => cellsA xs
  | _ => []
def addNew : List Nat → List Nat → List Nat
  | acc, [] => acc
  | acc, n :: ns => if n ∈ acc then addNew acc ns else addNew (acc ++ [n]) ns
def grow (st : Sr) : List Nat → List Nat → List Nat
  | acc, [] => acc
  | acc, i :: is => grow st (match st[i]? with | some c => addNew acc (cellsC c) | none => acc) is
def reach (st : Sr) (is : List Nat) : List Nat := match is with
  | [] => []
  | i :: is => let a := addNew [] (i :: is); let b := grow st a a; grow st b b
def idx (n : Nat) : List Nat → Option Nat
  | [] => none
  | m :: ms => if m = n then some 0 else (idx n ms).map (· + 1)
def ren (ids : List Nat) : D → Option D
  | .fz p => some (.fz p)
  | .cell n => (idx n ids).map .cell
def renF (ids : List Nat) : List (Str × D) → Option (List (Str × D))
  | [] => some []
  | (k, d) :: fs => match ren ids d, renF ids fs with
    | some d', some fs' => some ((k, d') :: fs')
    | _, _ => none
def renA (ids : List Nat) : List D → Option (List D)
  | [] => some []
  | d :: ds => match ren ids d, renA ids ds with
    | some d', some ds' => some (d' :: ds')
    | _, _ => none
def renC (ids : List Nat) : Ct → Option Ct
  | .obj c fs => (renF ids fs).map (.obj c)
  | .lsD xs => (renA ids xs).map .lsD
  | .tuD xs => (renA ids xs).map .tuD
  | .lst xs => some (.lst xs)
  | .dct xs => some (.dct xs)
  | .ldct xs => some (.ldct xs)
  | .dn xs => some (.dn xs)
  | .frz p => some (.frz p)
def subG (ids : List Nat) (st : Sr) : List Nat → Option Sr
  | [] => some []
  | i :: is => match st[i]? with
    | some c => match renC ids c, subG ids st is with
      | some c', some cs => some (c' :: cs)
      | _, _ => none
    | none => none
abbrev subS (ids : List Nat) (st : Sr) : Option Sr := subG ids st ids
section
variable {K : PySem.W.Frag} {Z H : Hp} {φ ψ : List Addr}
theorem idx_get : ∀ {ids : List Nat} {n j : Nat}, idx n ids = some j → ids[j]? = some n
  | m :: ms, n, j, h => by
    unfold idx at h
    split at h
    · rename_i e; cases h; simp [e]
    · cases q : idx n ms with
      | none => rw [q] at h; cases h
      | some k => rw [q] at h; cases h; simpa using idx_get q
/-- ψ: the addresses of the ids -/
def AtIds (φ ψ : List Addr) (ids : List Nat) : Prop := ψ.length = ids.length ∧ ∀ (j n : Nat), ids[j]? = some n → ∃ a, φ[n]? = some a ∧ ψ[j]? = some a
theorem ren_ok {ids : List Nat} (hi : AtIds φ ψ ids) {d d' : D} {v : V} (e : ren ids d = some d') (r : RepD K Z φ d v) : RepD K Z ψ d' v := by
  cases d with
  | fz p => cases e; exact r
  | cell n =>
    replace e : (idx n ids).map D.cell = some d' := e
    cases q : idx n ids with
    | none => rw [q] at e; cases e
    | some j =>
      rw [q] at e; cases e
      obtain ⟨a, h1, rfl⟩ := r
      obtain ⟨b, h2, h3⟩ := hi.2 j n (idx_get q)
      rw [h1] at h2; cases h2
      exact ⟨a, h3, rfl⟩
theorem renA_ok {ids : List Nat} (hi : AtIds φ ψ ids) : ∀ {ds ds' : List D} {vs : List V}, renA ids ds = some ds' → RepDs K Z φ ds vs → RepDs K Z ψ ds' vs
  | [], ds', vs, e, r => by cases e; exact r
  | d :: ds, ds', vs, e, r => by
    unfold renA at e
    obtain ⟨v, ws, rfl, r1, r2⟩ := r
    split at e
    · rename_i d' ds2 e1 e2; cases e; exact ⟨v, ws, rfl, ren_ok hi e1 r1, renA_ok hi e2 r2⟩
    · cases e
theorem renF_ok {ids : List Nat} (hi : AtIds φ ψ ids) : ∀ {ds ds' : List (Str × D)} {vs : List (Str × V)}, renF ids ds = some ds' → RepDF K Z φ ds vs → RepDF K Z ψ ds' vs
  | [], ds', vs, e, r => by cases e; exact r
  | (k, d) :: ds, ds', vs, e, r => by
    unfold renF at e
    obtain ⟨v, ws, rfl, r1, r2⟩ := r
    split at e
    · rename_i d' ds2 e1 e2; cases e; exact ⟨v, ws, rfl, ren_ok hi e1 r1, renF_ok hi e2 r2⟩
    · cases e
theorem renC_ok {ids : List Nat} (hi : AtIds φ ψ ids) {a : Addr} {c c' : Ct} (e : renC ids c = some c') (r : RelC K Z φ H a c) : RelC K Z ψ H a c' := by
  cases c with
  | lst xs => cases e; exact r
  | dct xs => cases e; exact r
  | ldct xs => cases e; exact r
  | dn xs => cases e; exact r
  | frz xs => cases e; exact r
  | lsD xs =>
    replace e : (renA ids xs).map Ct.lsD = some c' := e
    cases q : renA ids xs with
    | none => rw [q] at e; cases e
    | some xs' =>
      rw [q] at e; cases e
      obtain ⟨hz, gs, h1, h2⟩ := r
      exact ⟨hz, gs, h1, renA_ok hi q h2⟩
  | tuD xs =>
    replace e : (renA ids xs).map Ct.tuD = some c' := e
    cases q : renA ids xs with
    | none => rw [q] at e; cases e
    | some xs' =>
      rw [q] at e; cases e
      obtain ⟨hz, gs, h1, h2⟩ := r
      exact ⟨hz, gs, h1, renA_ok hi q h2⟩
  | obj c fs =>
    replace e : (renF ids fs).map (Ct.obj c) = some c' := e
    cases q : renF ids fs with
    | none => rw [q] at e; cases e
    | some fs' =>
      rw [q] at e; cases e
      obtain ⟨hz, dx, gs, h1, h2⟩ := r
      exact ⟨hz, dx, gs, h1, renF_ok hi q h2⟩
theorem subG_get {ids : List Nat} {st : Sr} : ∀ {is : List Nat} {cs : Sr}, subG ids st is = some cs → cs.length = is.length ∧ ∀ (j n : Nat), is[j]? = some n → ∃ c c', st[n]? = some c ∧ renC ids c = some c' ∧ cs[j]? = some c'
  | [], cs, h => by cases h; exact ⟨rfl, fun j n e => by simp at e⟩
  | i :: is, cs, h => by
    unfold subG at h
    split at h
    · rename_i c e1
      split at h
      · rename_i c' cs' e2 e3
        cases h
        obtain ⟨hl, hg⟩ := subG_get e3
        refine ⟨by simp [hl], fun j n e => ?_⟩
        cases j with
        | zero => simp at e; subst e; exact ⟨c, c', e1, e2, rfl⟩
        | succ j => simpa using hg j n (by simpa using e)
      · cases h
    · cases h
/-- the part stands over the addresses of its ids -/
theorem subS_ok {ids : List Nat} {st st' : Sr} (rs : RS K Z φ st H) (nd : ids.Nodup) (e : subS ids st = some st') : ∃ ψ, AtIds φ ψ ids ∧ RS K Z ψ st' H := by
  obtain ⟨hl, hg⟩ := subG_get e
  have ex : ∀ n ∈ ids, ∃ a, φ[n]? = some a := fun n hn => by
    obtain ⟨j, hj⟩ := List.getElem?_of_mem hn
    obtain ⟨c, c', h1, _⟩ := hg j n hj
    obtain ⟨q, _⟩ := List.getElem?_eq_some_iff.mp h1
    exact ⟨_, List.getElem?_eq_getElem (by rw [rs.len]; exact q)⟩
  have at_ : AtIds φ (ids.map fun n => φ.getD n 0) ids := ⟨by simp, fun j n hj => by
    obtain ⟨a, ha⟩ := ex n (List.mem_of_getElem? hj)
    exact ⟨a, ha, by rw [List.getElem?_map, hj]; simp [List.getD, ha]⟩⟩
  refine ⟨_, at_, rs.same, by rw [List.length_map, hl], ?_, fun j a c hj hc => ?_, rs.tb, rs.zd⟩
  · refine List.pairwise_map.mpr (nd.imp_of_mem fun {n m} hn hm hne he => hne ?_)
    obtain ⟨a, ha⟩ := ex n hn
    obtain ⟨b, hb⟩ := ex m hm
    simp only [List.getD, ha, hb, Option.getD_some] at he
    subst he
    exact RS.write.nodup_ix' rs.nd ha hb
  · rw [List.getElem?_map] at hj
    cases q : ids[j]? with
    | none => rw [q] at hj; cases hj
    | some n =>
      rw [q] at hj
      obtain ⟨c0, c', h1, h2, h3⟩ := hg j n q
      rw [hc] at h3; cases h3
      obtain ⟨b, hb⟩ := ex n (List.mem_of_getElem? q)
      simp only [Option.map_some, Option.some.injEq, List.getD, hb, Option.getD_some] at hj
      subst hj
      exact renC_ok at_ h2 (rs.cells n b c0 hb h1)
end
def frzTop (m : Nat) (st : Sr) : D → Option (D × Sr)
  | .fz p => some (.fz p, st)
  | .cell n => if n < m then some (.cell n, st) else (toP st (.cell n)).map fun r => (.fz r.1, r.2)
def exitI (m : Nat) (d : D) (st : Sr) : R (D × Sr) :=
  if (reach st (List.range m ++ cellsD d)).take m = List.range m ∧ (reach st (List.range m ++ cellsD d)).Nodup then
    match ren (reach st (List.range m ++ cellsD d)) d, subS (reach st (List.range m ++ cellsD d)) st with
    | some d2, some st2 => .ok (d2, st2)
    | _, _ => .stuck
  else .stuck
def exitF (fr : Bool) (m : Nat) (d : D) (st : Sr) : R (D × Sr) := match fr with
  | true => match frzTop m st d with
    | some (d1, st1) => exitI m d1 st1
    | none => .stuck
  | false => exitI m d st
def exitX (m : Nat) (c : Str) (fs : Option (List (Str × P))) (st : Sr) : R (D × Sr) :=
  match exitI m (.fz .non) st with
  | .ok (_, st2) => .exc c fs [] st2
  | _ => .stuck
def endF (fr : Bool) (m : Nat) : R (Fl × Et × Sr) → R (D × Sr)
  | .ok (.rt d, _, st') => exitF fr m d st'
  | .ok (.nx, _, st') => exitF fr m (.fz .non) st'
  | .ok _ => .stuck
  | .exc c fs _ st' => exitX m c fs st'
  | .stuck => .stuck
def runF (np n : Nat) (fr : Bool) (b : DS) : DF := fun ds st => if ds.length = np then endF fr st.length (b (ds.map some ++ List.replicate (n - np) none) st) else .stuck
/-- the promise of a def that means F -/
def spF (K : PySem.W.Frag) (F : DF) : Sp := fun vs H Q E => ∃ Z φ st ds, RS K Z φ st H ∧ RepDs K Z φ ds vs ∧ Af K (fun c d _ H => E c d H) Z φ H (F ds st) (GE K Q)
section
variable {K : PySem.W.Frag} {Z H : Hp} {φ ψ : List Addr}
theorem exitI_ok {m : Nat} {d d2 : D} {st st2 : Sr} {v : V} {Z0 H0 : Hp} (hm : φ.length = m) (s : Step Z0 φ H0 Z (φ ++ ψ) H) (rs : RS K Z (φ ++ ψ) st H) (r : RepD K Z (φ ++ ψ) d v) (e : exitI m d st = .ok (d2, st2)) :
    ∃ φ2, Step Z0 φ H0 Z φ2 H ∧ RS K Z φ2 st2 H ∧ RepD K Z φ2 d2 v := by
  unfold exitI at e
  generalize reach st (List.range m ++ cellsD d) = ids at e
  split at e
  · rename_i hc
    split at e
    · rename_i d3 st3 e1 e2
      cases e
      obtain ⟨χ, at_, rs2⟩ := subS_ok rs hc.2 e2
      refine ⟨χ, ⟨s.hz, ?_, s.fr, s.zn, s.up, s.lk⟩, rs2, ren_ok at_ e1 r⟩
      have hlen : m ≤ ids.length := by
        have := congrArg List.length hc.1
        rw [List.length_take, List.length_range] at this; omega
      obtain ⟨psi, he, hn⟩ := s.pre
      obtain rfl := List.append_cancel_left he
      have htake : χ.take m = φ := by
        apply List.ext_getElem?
        intro j
        by_cases hj : j < m
        · rw [List.getElem?_take_of_lt hj]
          have hij : ids[j]? = some j := by
            have := congrArg (fun l => l[j]?) hc.1
            simp only [List.getElem?_take_of_lt hj, List.getElem?_range hj] at this
            exact this
          obtain ⟨a, h1, h2⟩ := at_.2 j j hij
          rw [h2, ← h1, List.getElem?_append_left (by omega)]
        · rw [List.getElem?_eq_none (by simp; omega), List.getElem?_eq_none (by omega)]
      refine ⟨χ.drop m, by rw [← htake]; simp, fun a ha => ?_⟩
      obtain ⟨j, hj⟩ := List.getElem?_of_mem ha
      rw [List.getElem?_drop] at hj
      have hjl : m + j < ids.length := by rw [← at_.1]; exact (List.getElem?_eq_some_iff.mp hj).1
      obtain ⟨b, h1, h2⟩ := at_.2 (m + j) _ (List.getElem?_eq_getElem hjl)
      rw [hj] at h2; cases h2
      by_cases hk : ids[m + j] < φ.length
      · exfalso
        have hij : ids[ids[m + j]]? = some ids[m + j] := by
          have := congrArg (fun l => l[ids[m + j]]?) hc.1
          simp only [List.getElem?_take_of_lt (show ids[m + j] < m by omega), List.getElem?_range (show ids[m + j] < m by omega)] at this
          exact this
        obtain ⟨hl, hge⟩ := List.getElem?_eq_some_iff.mp hij
        have := (List.getElem_inj (h₀ := hl) (h₁ := hjl) hc.2).mp hge
        omega
      · rw [List.getElem?_append_right (by omega)] at h1
        exact hn a (List.mem_of_getElem? h1)
    · cases e
  · cases e
theorem Af.exitF {W : WX} {fr : Bool} {m : Nat} {d : D} {st : Sr} {v : V} {Z0 H0 : Hp} {Q : VK} (hm : φ.length = m) (af : Af K W Z0 φ H0 (exitF fr m d st) (GE K Q)) (s : Step Z0 φ H0 Z (φ ++ ψ) H) (rs : RS K Z (φ ++ ψ) st H) (r : RepD K Z (φ ++ ψ) d v) : Q v H := by
  have main : ∀ {d : D} {st : Sr} {Z : Hp}, Af K W Z0 φ H0 (exitI m d st) (GE K Q) → Step Z0 φ H0 Z (φ ++ ψ) H → RS K Z (φ ++ ψ) st H → RepD K Z (φ ++ ψ) d v → Q v H := by
    intro d st Z af s rs r
    cases e : exitI m d st with
    | ok a =>
      obtain ⟨d2, st2⟩ := a
      rw [e] at af
      obtain ⟨φ2, s2, rs2, r2⟩ := exitI_ok hm s rs r e
      exact af _ _ _ s2 rs2 v r2
    | exc c fs η st' =>
      unfold exitI at e
      split at e
      · split at e <;> cases e
      · cases e
    | stuck => rw [e] at af; exact af.elim
  cases fr with
  | false => exact main af s rs r
  | true =>
    unfold M.exitF at af
    dsimp only at af
    split at af
    · rename_i d1 st1 e
      cases d with
      | fz p => cases e; exact main af s rs r
      | cell n =>
        replace e : (if n < m then some (D.cell n, st) else (toP st (.cell n)).map fun r => (D.fz r.1, r.2)) = some (d1, st1) := e
        split at e
        · cases e; exact main af s rs r
        · cases q : toP st (.cell n) with
          | none => rw [q] at e; cases e
          | some pr =>
            obtain ⟨p, st'⟩ := pr
            rw [q] at e; cases e
            obtain ⟨Z2, f2, rs2, r2⟩ := toP_ok rs q r
            refine main af (s.trans f2.step) rs2 r2
    · exact af.elim
end
theorem slots_start {K : PySem.W.Frag} {Z : Hp} {φ : List Addr} : ∀ {ds : List D} {vs : List V} {k : Nat}, RepDs K Z φ ds vs → Slots K Z φ (ds.map some ++ List.replicate k none) (vs.map some ++ List.replicate k none)
  | [], vs, k, h => by
    cases h
    refine ⟨by simp, fun i d e => ?_⟩
    simp only [List.map_nil, List.nil_append, List.getElem?_replicate] at e
    split at e <;> cases e
  | d :: ds, vs, k, h => by
    obtain ⟨v, ws, rfl, h1, h2⟩ := h
    have ih := slots_start (k := k) h2
    refine ⟨by simpa using ih.len, fun i d' e => ?_⟩
    cases i with
    | zero => simp at e; subst e; exact ⟨v, rfl, h1⟩
    | succ i => simpa using ih.at_ i d' (by simpa using e)
theorem RepDs.length {K : PySem.W.Frag} {Z : Hp} {φ : List Addr} : ∀ {ds : List D} {vs : List V}, RepDs K Z φ ds vs → ds.length = vs.length
  | [], vs, h => by cases h; rfl
  | d :: ds, vs, h => by obtain ⟨v, ws, rfl, _, h2⟩ := h; simp [RepDs.length h2]
/-- from a body's meaning to the def's -/
theorem spF_len {K : PySem.W.Frag} {n np : Nat} {fr : Bool} {b : DS} {vs : List V} {H : Hp} {Q : VK} {E : XK} (h : spF K (runF np n fr b) vs H Q E) : vs.length = np := by
  obtain ⟨Z, φ, st, ds, rs, rd, af⟩ := h
  unfold runF at af
  split at af
  · rename_i hl; rw [← rd.length]; exact hl
  · exact af.elim
theorem body_ok {K : PySem.W.Frag} {n np : Nat} {fr : Bool} {b : DS} {N : List Str} {vs : List V} {H : Hp} {Q : VK} {E : XK} (hN : N.length = n) (h : spF K (runF np n fr b) vs H Q E) :
    tS K (fun c d _ H => E c d H) b { nx := fun _ H' => Q .non H', rt := Q } (L2.start N vs) H := by
  have hv := spF_len h
  obtain ⟨Z, φ, st, ds, rs, rd, af⟩ := h
  have hl := rd.length
  refine ⟨Z, φ, ds.map some ++ List.replicate (n - np) none, st, rs, by unfold L2.start; rw [hN, hv]; exact slots_start rd, ?_⟩
  unfold runF at af
  rw [if_pos (hl.trans hv)] at af
  cases e : b (ds.map some ++ List.replicate (n - np) none) st with
  | ok r =>
    obtain ⟨fl, η', st'⟩ := r
    rw [e] at af
    intro Z' φ' H' s rs'
    obtain ⟨psi, rfl, hn⟩ := s.pre
    cases fl with
    | nx => exact fun σ' _ => Af.exitF rs.len af s rs' rep_non
    | rt d => exact fun v r => Af.exitF rs.len af s rs' r
    | bk => exact af.elim
    | ct => exact af.elim
  | exc c fs η' st' =>
    rw [e] at af
    intro σ' H' Z' φ' s rs' sl
    obtain ⟨psi, rfl, hn⟩ := s.pre
    have af2 : Af K (fun c d _ H => E c d H) Z φ H (exitX st.length c fs st') (GE K Q) := af
    unfold exitX at af2
    split at af2
    · rename_i d2 st2 e2
      obtain ⟨φ2, s2, rs2, _⟩ := exitI_ok rs.len s rs' rep_non e2
      exact af2 [] H' Z' φ2 s2 rs2 ⟨rfl, fun i d e => by simp at e⟩
    · exact af2.elim
  | stuck => rw [e] at af; exact af.elim
def bkN (ids : List Nat) (n : Nat) (i : Nat) : Nat := match ids[i]? with
  | some k => k
  | none => n + (i - ids.length)
def bkD (ids : List Nat) (n : Nat) : D → D
  | .fz p => .fz p
  | .cell i => .cell (bkN ids n i)
def bkF (ids : List Nat) (n : Nat) : List (Str × D) → List (Str × D)
  | [] => []
  | (k, d) :: fs => (k, bkD ids n d) :: bkF ids n fs
def bkC (ids : List Nat) (n : Nat) : Ct → Ct
  | .obj c fs => .obj c (bkF ids n fs)
  | .lsD xs => .lsD (xs.map (bkD ids n))
  | .tuD xs => .tuD (xs.map (bkD ids n))
  | .lst xs => .lst xs
  | .dct xs => .dct xs
  | .ldct xs => .ldct xs
  | .dn xs => .dn xs
  | .frz p => .frz p
def putAll (st : Sr) : List Nat → Sr → Sr
  | [], _ => st
  | _, [] => st
  | i :: is, c :: cs => putAll (st.set i c) is cs
def backS (ids : List Nat) (st st2 : Sr) : Sr := putAll st ids ((st2.take ids.length).map (bkC ids st.length)) ++ (st2.drop ids.length).map (bkC ids st.length)
def callI (F : DF) (ids : List Nat) (ds : List D) (η : Et) (st : Sr) : R (D × Sr) :=
  if ids.Nodup then match renA ids ds, subS ids st with
    | some ds1, some st1 => match F ds1 st1 with
      | .ok (d, st2) => if ids.length ≤ st2.length then .ok (bkD ids st.length d, backS ids st st2) else .stuck
      | .exc c fs _ st2 => if ids.length ≤ st2.length then .exc c fs η (backS ids st st2) else .stuck
      | .stuck => .stuck
    | _, _ => .stuck
  else .stuck
def callF (F : DF) (ds : List D) (η : Et) (st : Sr) : R (D × Sr) := callI F (reach st (cellsA ds)) ds η st
def dCall (F : DF) (g : DA) : DE := fun η st => (g η st).bind fun a => callF F a.1 η a.2
section
variable {K : PySem.W.Frag} {Z Z2 H H2 : Hp} {φ ψ χ : List Addr} {ids : List Nat}
theorem bkD_ok {d : D} {v : V} (at_ : AtIds φ ψ ids) (r : RepD K Z (ψ ++ χ) d v) : RepD K Z (φ ++ χ) (bkD ids φ.length d) v := by
  cases d with
  | fz p => exact r
  | cell i =>
    obtain ⟨a, h1, rfl⟩ := r
    refine ⟨a, ?_, rfl⟩
    unfold bkN
    cases q : ids[i]? with
    | some k =>
      obtain ⟨b, h2, h3⟩ := at_.2 i k q
      have hi : i < ψ.length := (List.getElem?_eq_some_iff.mp h3).1
      rw [List.getElem?_append_left hi, h3] at h1
      cases h1
      dsimp only
      rw [List.getElem?_append_left (List.getElem?_eq_some_iff.mp h2).1]
      exact h2
    | none =>
      have hi : ids.length ≤ i := List.getElem?_eq_none_iff.mp q
      rw [List.getElem?_append_right (by rw [at_.1]; exact hi), at_.1] at h1
      dsimp only
      rw [List.getElem?_append_right (by omega)]
      rw [show φ.length + (i - ids.length) - φ.length = i - ids.length by omega]
      exact h1
theorem bkF_ok (at_ : AtIds φ ψ ids) : ∀ {fs : List (Str × D)} {gs : List (Str × V)}, RepDF K Z (ψ ++ χ) fs gs → RepDF K Z (φ ++ χ) (bkF ids φ.length fs) gs
  | [], gs, r => r
  | (k, d) :: fs, gs, r => by
    obtain ⟨v, ws, rfl, r1, r2⟩ := r
    exact ⟨v, ws, rfl, bkD_ok at_ r1, bkF_ok at_ r2⟩
theorem bkA_ok (at_ : AtIds φ ψ ids) : ∀ {ds : List D} {vs : List V}, RepDs K Z (ψ ++ χ) ds vs → RepDs K Z (φ ++ χ) (ds.map (bkD ids φ.length)) vs
  | [], vs, r => r
  | d :: ds, vs, r => by
    obtain ⟨v, ws, rfl, r1, r2⟩ := r
    exact ⟨v, ws, rfl, bkD_ok at_ r1, bkA_ok at_ r2⟩
theorem bkC_ok {a : Addr} {c : Ct} (at_ : AtIds φ ψ ids) (r : RelC K Z (ψ ++ χ) H a c) : RelC K Z (φ ++ χ) H a (bkC ids φ.length c) := by
  cases c with
  | lst xs => exact r
  | dct xs => exact r
  | ldct xs => exact r
  | dn xs => exact r
  | frz xs => exact r
  | obj c fs =>
    obtain ⟨hz, dx, gs, h1, h2⟩ := r
    exact ⟨hz, dx, gs, h1, bkF_ok at_ h2⟩
  | lsD xs =>
    obtain ⟨hz, gs, h1, h2⟩ := r
    exact ⟨hz, gs, h1, bkA_ok at_ h2⟩
  | tuD xs =>
    obtain ⟨hz, gs, h1, h2⟩ := r
    exact ⟨hz, gs, h1, bkA_ok at_ h2⟩
theorem putAll_len : ∀ {ids : List Nat} {cs st : Sr}, (putAll st ids cs).length = st.length
  | [], _, _ => by unfold putAll; rfl
  | _ :: _, [], _ => by unfold putAll; rfl
  | i :: is, c :: cs, st => by unfold putAll; rw [putAll_len]; simp
theorem putAll_get : ∀ {ids : List Nat} {cs st : Sr} {k : Nat}, ids.Nodup → ids.length = cs.length → k < st.length → (putAll st ids cs)[k]? = match idx k ids with | some j => cs[j]? | none => st[k]?
  | [], cs, st, k, _, _, _ => by unfold putAll idx; rfl
  | _ :: _, [], _, _, _, h, _ => by simp at h
  | i :: is, c :: cs, st, k, nd, hl, hk => by
    unfold putAll idx
    rw [putAll_get (List.nodup_cons.mp nd).2 (by simpa using hl) (by simpa using hk)]
    by_cases e : i = k
    · subst e
      rw [if_pos rfl]
      cases q : idx i is with
      | some j => exact absurd (List.mem_of_getElem? (idx_get q)) (List.nodup_cons.mp nd).1
      | none => simp [hk]
    · rw [if_neg e]
      cases q : idx k is with
      | some j => simp
      | none => simp [List.getElem?_set_ne e]
theorem idx_none : ∀ {ids : List Nat} {n : Nat}, idx n ids = none → n ∉ ids
  | [], _, _ => by simp
  | m :: ms, n, h => by
    unfold idx at h
    split at h
    · cases h
    · rename_i e
      cases q : idx n ms with
      | some k => rw [q] at h; cases h
      | none => simp only [List.mem_cons, not_or]; exact ⟨fun z => e z.symm, idx_none q⟩
theorem call_back {st st1 st2 : Sr} (rs : RS K Z φ st H) (nd : ids.Nodup) (at_ : AtIds φ ψ ids) (hl : ids.length ≤ st2.length) (s : Step Z ψ H Z2 (ψ ++ χ) H2) (rs2 : RS K Z2 (ψ ++ χ) st2 H2) :
    RS K Z2 (φ ++ χ) (backS ids st st2) H2 ∧ Step Z φ H Z2 (φ ++ χ) H2 := by
  have hψ : ∀ a ∈ ψ, a ∈ φ := fun a ha => by
    obtain ⟨j, hj⟩ := List.getElem?_of_mem ha
    have hjl : j < ids.length := by rw [← at_.1]; exact (List.getElem?_eq_some_iff.mp hj).1
    obtain ⟨b, h1, h2⟩ := at_.2 j _ (List.getElem?_eq_getElem hjl)
    rw [hj] at h2; cases h2
    exact List.mem_of_getElem? h1
  obtain ⟨χ', he, hn⟩ := s.pre
  obtain rfl := List.append_cancel_left he
  have hlen2 : χ.length = st2.length - ids.length := by have := rs2.len; rw [List.length_append, at_.1] at this; omega
  refine ⟨⟨rs2.same, ?_, ?_, fun i a c hi hc => ?_, rs2.tb, rs2.zd⟩, ⟨s.hz, ⟨χ, rfl, hn⟩, fun b o hb hnb ht => s.fr b o hb (fun z => hnb (hψ b z)) ht, fun b hb => ?_, s.up, s.lk⟩⟩
  · unfold backS
    rw [List.length_append, List.length_append, putAll_len, rs.len, List.length_map, List.length_drop, hlen2]
  · have nd2 := List.nodup_append.mp rs2.nd
    exact List.nodup_append.mpr ⟨rs.nd, nd2.2.1, fun x hx y hy => by
      rintro rfl
      obtain ⟨i, hi⟩ := List.getElem?_of_mem hx
      obtain ⟨c, _, r⟩ := rs.at_ hi
      obtain ⟨o, ho, hd⟩ := r.at2
      exact (hn x hy).no ho hd.1⟩
  · unfold backS at hc
    by_cases hil : i < φ.length
    · rw [List.getElem?_append_left hil] at hi
      rw [List.getElem?_append_left (by rw [putAll_len, ← rs.len]; exact hil), putAll_get nd (by simp; omega) (by rw [← rs.len]; exact hil)] at hc
      cases q : idx i ids with
      | some j =>
        rw [q] at hc
        dsimp only at hc
        have hj := idx_get q
        have hjl : j < ids.length := (List.getElem?_eq_some_iff.mp hj).1
        rw [List.getElem?_map, List.getElem?_take_of_lt hjl, ← rs.len] at hc
        obtain ⟨b, h1, h2⟩ := at_.2 j i hj
        rw [hi] at h1; cases h1
        cases q2 : st2[j]? with
        | none => rw [q2] at hc; cases hc
        | some c2 =>
          rw [q2] at hc; cases hc
          have hjψ : j < ψ.length := by rw [at_.1]; exact hjl
          exact bkC_ok at_ (rs2.cells j a c2 (by rw [List.getElem?_append_left hjψ]; exact h2) q2)
      | none =>
        rw [q] at hc
        dsimp only at hc
        have hni := idx_none q
        have rc := rs.cells i a c hi hc
        have haψ : a ∉ ψ := fun ha => by
          obtain ⟨j, hj⟩ := List.getElem?_of_mem ha
          have hjl : j < ids.length := by rw [← at_.1]; exact (List.getElem?_eq_some_iff.mp hj).1
          obtain ⟨b, h1, h2⟩ := at_.2 j _ (List.getElem?_eq_getElem hjl)
          rw [hj] at h2; cases h2
          have := RS.write.nodup_ix' rs.nd hi h1
          exact hni (this ▸ List.getElem_mem hjl)
        refine rc.keep s.hz ⟨χ, rfl⟩ (fun hf => ?_) fun o ho hd => s.fr a o ho haψ hd.1
        cases q3 : Z2 a with
        | none => rfl
        | some o =>
          exfalso
          rcases s.zn a (by rw [q3]; exact fun z => nomatch z) with z | z | z
          · exact z (rc.free hf)
          · obtain ⟨o', ho, hd⟩ := rc.at2; exact z.no ho hd.1
          · exact haψ z
    · rw [List.getElem?_append_right (by omega)] at hi
      rw [List.getElem?_append_right (by rw [putAll_len, ← rs.len]; omega), putAll_len, ← rs.len, List.getElem?_map, List.getElem?_drop] at hc
      cases q2 : st2[ids.length + (i - φ.length)]? with
      | none => rw [q2] at hc; cases hc
      | some c2 =>
        rw [q2] at hc; cases hc
        refine bkC_ok at_ (rs2.cells (ids.length + (i - φ.length)) a c2 ?_ q2)
        rw [List.getElem?_append_right (by rw [at_.1]; omega), at_.1, show ids.length + (i - φ.length) - ids.length = i - φ.length by omega]
        exact hi
  · rcases s.zn b hb with z | z | z
    · exact .inl z
    · exact .inr (.inl z)
    · exact .inr (.inr (hψ b z))
/-- a call's meaning gives the callee's promise -/
theorem call_sp {W : WX} {F : DF} {ds : List D} {vs : List V} {η : Et} {σ : St} {st : Sr} {Q : VK} (rs : RS K Z φ st H) (sl : Slots K Z φ η σ) (rd : RepDs K Z φ ds vs) (af : Af K W Z φ H (callF F ds η st) (GE K Q)) : spF K F vs H Q (WE W σ) := by
  unfold callF callI at af
  generalize reach st (cellsA ds) = ids at af
  split at af
  · rename_i nd
    split at af
    · rename_i ds1 st1 e1 e2
      obtain ⟨ψ, at_, rs1⟩ := subS_ok rs nd e2
      refine ⟨Z, ψ, st1, ds1, rs1, renA_ok at_ e1 rd, ?_⟩
      cases e : F ds1 st1 with
      | ok r =>
        obtain ⟨d, st2⟩ := r
        rw [e] at af
        dsimp only at af
        split at af
        · rename_i hl
          intro Z' φ' H' s rs2 v r
          obtain ⟨χ, rfl, _⟩ := id s.pre
          obtain ⟨q1, q2⟩ := call_back (st1 := st1) rs nd at_ hl s rs2
          exact af _ _ _ q2 q1 v (by rw [← rs.len]; exact bkD_ok at_ r)
        · exact af.elim
      | exc c fs η' st2 =>
        rw [e] at af
        dsimp only at af
        split at af
        · rename_i hl
          intro σ' H' Z' φ' s rs2 _
          obtain ⟨χ, rfl, _⟩ := id s.pre
          obtain ⟨q1, q2⟩ := call_back (st1 := st1) rs nd at_ hl s rs2
          exact af σ H' Z' _ q2 q1 (sl.mono q2)
        · exact af.elim
      | stuck => rw [e] at af; exact af.elim
    · exact af.elim
  · exact af.elim
end
section
variable {X : Cx} {W : WX} {k : Nat} {f : Addr} {fd : FuncData} {ps : List Str} {x : Str} {p pos : Pos} {e : Expr} {es : List Expr} {fs : DA} {F : DF}
/-- f(e, ..) -/
theorem de_call (tk : Takes X W) (Fo : FnOk X.prog X.w X.K X.mg X.base (L2.CX X.prog X.w) k f fd ps (spF X.K F)) (hr : Room k X.A) (hg : Gl X x) (hm : X.mg x = some (.ref f)) (hk : PySem.W.keepIn X.K (.ref f) = true) (hb : Binds X.K fd ps []) (ha : PA X (e :: es) (tA X.K W fs))
    (hdb : (x == ("__debug__" : Str)) = false := by decide)
    (he : starEach (e :: es) X.env = (false, eval e X.env) :: starEach es X.env := by rfl) (hpl : (backTo pos (starEach es X.env)).any (·.1) = false := by rfl) : PE X (.Call (.Name x p) (e :: es) [] pos) (tE X.K W (dCall F fs)) := by
  refine (pe_callS Fo hr hg hm hk hb (fun σ => passAt tk σ) ha hdb he hpl).to fun σ H Q h => ?_
  obtain ⟨Z, φ, η, st, rs, sl, af⟩ := h
  exact ⟨Z, φ, η, st, rs, sl, af.bind.mono fun a Z' φ' H' t g' rs' vs r => call_sp rs' (sl.mono t) r g'⟩
end
/-- THE RULE for a def: its body's meaning gives the def's -/
theorem fn_D {P : Program} {w : World} {K : PySem.W.Frag} {mg : Str → Option Value} {base : Heap} {x qual : Str} {params : Arguments} {body : List Stmt} {scope : Scope} {dvs : List V} {kws : List (Str × V)} {f : Addr} {fd : FuncData} {N ps : List Str} {k np n : Nat} {fr : Bool} {b : DS}
    (F : FunD K x qual params body scope dvs kws f fd) (S : FnScope N ps scope) (hps : ps.length = np) (hN : N.length = n)
    (hbody : ∀ (cdv : Value) (A : Around) (outer : List Env) (s : Shared) (H : Hp) (E : XK), Room k (cxOf (L2.CX P w) P w K mg base N qual scope f cdv A outer s H E).A →
      PassesOwn (model P w) (cxOf (L2.CX P w) P w K mg base N qual scope f cdv A outer s H E).A (cxOf (L2.CX P w) P w K mg base N qual scope f cdv A outer s H E).env (cxOf (L2.CX P w) P w K mg base N qual scope f cdv A outer s H E).xe →
      Takes (cxOf (L2.CX P w) P w K mg base N qual scope f cdv A outer s H E) (fun c d _ H => E c d H) →
      PSs (cxOf (L2.CX P w) P w K mg base N qual scope f cdv A outer s H E) body (tS K (fun c d _ H => E c d H) b)) : FnOk P w K mg base (L2.CX P w) (k + 1) f fd ps (spF K (runF np n fr b)) := by
  refine F.ok S (fun vs H Q E h => by rw [hps]; exact spF_len h) fun cdv A outer s H vs Q E hr h => ⟨_, hbody cdv A outer s H E hr (passes_of rfl) (takes_of rfl rfl rfl rfl), body_ok hN h⟩
end M
end
section
set_option Elab.async false
set_option linter.all false
set_option maxRecDepth 100000
set_option maxHeartbeats 0
namespace M
open PySem L2
/-- a def keeps its meaning F -/
structure Okd (P : Program) (w : World) (K : PySem.W.Frag) (mg : Str → Option Value) (base : Heap) (k : Nat) (p : Str × Option Str) (ps : List Str) (F : DF) : Prop where
  ex : ∃ fd, FnOk P w K mg base (L2.CX P w) k (He.fAd K p) fd ps (spF K F) ∧ Binds K fd ps []
  kp : PySem.W.keepIn K (.ref (He.fAd K p)) = true
section
variable {X : Cx} {W : WX} {k j : Nat} {ps : List Str} {x : Str} {p pos : Pos} {e : Expr} {es : List Expr} {fs : DA} {F : DF}
theorem de_callG (tk : Takes X W) (o : Okd X.prog X.w X.K X.mg X.base k (x, none) ps F) (hr : Room j X.A) (hm : X.mg x = some (.ref (He.ga X.K x))) (ha : PA X (e :: es) (tA X.K W fs)) (hk : k ≤ j := by decide) (hg : Gl X x := by rfl)
    (hdb : (x == ("__debug__" : Str)) = false := by decide)
    (he : starEach (e :: es) X.env = (false, eval e X.env) :: starEach es X.env := by rfl) (hpl : (backTo pos (starEach es X.env)).any (·.1) = false := by rfl) : PE X (.Call (.Name x p) (e :: es) [] pos) (tE X.K W (dCall F fs)) := by
  obtain ⟨fd, h1, h2⟩ := o.ex
  exact de_call tk h1 (hr.mono hk) hg hm o.kp h2 ha hdb he hpl
theorem okd_of {P : Program} {w : World} {K : PySem.W.Frag} {mg : Str → Option Value} {base : Heap} {d : He.DefD} {k : Nat} {N ps : List Str} {np n : Nat} {fr : Bool} {b : DS} (hd : d.dfl = []) (hkw : d.kwd = [])
    (h : ∃ fd, FunD K d.name d.qual d.params d.body d.scope (d.dvs K) (d.kws K) (He.fAd K d.at_) fd) (S : FnScope N ps d.scope) (hps : ps.length = np) (hN : N.length = n)
    (hb : ∀ (kV doc pm : Value) (an : Option Addr) (cdv ct : Value) (us : List Value), us.length = ps.length → bindArgs (PySem.W.fnOf d.name d.qual d.params d.body d.scope .none kV doc pm an cdv ct) ⟨us, []⟩ = pure (ps.zip us))
    (hbody : ∀ (f : Addr) (cdv : Value) (A : Around) (outer : List Env) (s : Shared) (H : Hp) (E : XK), Room k (cxOf (L2.CX P w) P w K mg base N d.qual d.scope f cdv A outer s H E).A →
      PassesOwn (model P w) (cxOf (L2.CX P w) P w K mg base N d.qual d.scope f cdv A outer s H E).A (cxOf (L2.CX P w) P w K mg base N d.qual d.scope f cdv A outer s H E).env (cxOf (L2.CX P w) P w K mg base N d.qual d.scope f cdv A outer s H E).xe →
      Takes (cxOf (L2.CX P w) P w K mg base N d.qual d.scope f cdv A outer s H E) (fun c d _ H => E c d H) →
      PSs (cxOf (L2.CX P w) P w K mg base N d.qual d.scope f cdv A outer s H E) d.body (tS K (fun c d _ H => E c d H) b)) :
    Okd P w K mg base (k + 1) d.at_ ps (runF np n fr b) := by
  obtain ⟨fd, F⟩ := h
  refine ⟨⟨fd, fn_D F S hps hN fun cdv A outer s H E hr hp tk => hbody _ cdv A outer s H E hr hp tk, ?_⟩, F.kp⟩
  have F' : FunD K d.name d.qual d.params d.body d.scope [] (d.kws K) (He.fAd K d.at_) fd := by
    have e : d.dvs K = [] := by unfold He.DefD.dvs; rw [hd]; rfl
    rw [← e]; exact F
  exact F'.bindsN hb
end
theorem bt_len : bootBuiltins "len" = some (.builtin "len") := by decide +kernel
theorem bt_abs : bootBuiltins "abs" = some (.builtin "abs") := by decide +kernel
theorem bt_int : bootBuiltins "int" = some (.type "int") := by decide +kernel
theorem bt_list : bootBuiltins "list" = some (.type "list") := by decide +kernel
end M
end
section
set_option Elab.async false
set_option linter.all false
set_option maxRecDepth 100000
set_option maxHeartbeats 0
namespace M
open PySem L2
def dYes : DT := fun _ st => .ok (true, st)
def lcD (i : Nat) (t : DT) (fe : DE) (η : Et) : List P → List P → Sr → R (List P × Sr)
  | [], acc, st => .ok (acc, st)
  | x :: xs, acc, st => (t (η.set i (some (.fz x))) st).bind fun a => if a.1 = true then (fe (η.set i (some (.fz x))) a.2).bind fun b => match toP b.2 b.1 with
      | some (p, st2) => if acc.length < szL then lcD i t fe η xs (acc ++ [p]) st2 else .stuck
      | none => .stuck
    else lcD i t fe η xs acc a.2
/-- an exception inside is not carried -/
def R.calm {α : Type} : R α → R α
  | .exc _ _ _ _ => .stuck
  | r => r
def lcF (r : R (List P × Sr)) : R (D × Sr) := r.calm.bind fun a => .ok (.cell a.2.length, a.2 ++ [.lst a.1])
abbrev W0 : WX := fun _ _ _ _ => False
section
variable {K : PySem.W.Frag} {Z H : Hp} {φ : List Addr}
theorem RS.adopt {st : Sr} {p : Addr} {xs : List P} {vs : List V} (rs : RS K Z φ st H) (h1 : p ∉ φ) (h2 : Z p = none) (h3 : H p = some (.lst vs)) (h4 : Reps K Z xs vs) : RS K Z (φ ++ [p]) (st ++ [.lst xs]) H := by
  refine ⟨rs.same, by simp [rs.len], ?_, fun i b c' hi hc' => ?_, rs.tb, rs.zd⟩
  · exact List.nodup_append.mpr ⟨rs.nd, by simp, fun x hx y hy => by simp at hy; subst hy; rintro rfl; exact h1 hx⟩
  · by_cases hl : i < φ.length
    · rw [List.getElem?_append_left hl] at hi
      rw [List.getElem?_append_left (by rw [← rs.len]; exact hl)] at hc'
      exact (rs.cells i b c' hi hc').keep (Same.refl _) ⟨[p], rfl⟩ (fun q => (rs.cells i b c' hi hc').free q) fun u hu _ => hu
    · rw [List.getElem?_append_right (by omega)] at hi
      rw [List.getElem?_append_right (by rw [← rs.len]; omega), ← rs.len] at hc'
      cases hk : i - φ.length with
      | zero => rw [hk] at hi hc'; simp at hi hc'; subst hi hc'; exact ⟨h2, vs, h3, h4⟩
      | succ k => rw [hk] at hi; simp at hi
/-- the list that is being made, beside the store -/
structure Mk1 (K : PySem.W.Frag) (Z : Hp) (φ : List Addr) (H : Hp) (p : Addr) (acc : List P) : Prop where
  out : p ∉ φ
  zn : Z p = none
  at_ : ∃ vs, H p = some (.lst vs) ∧ Reps K Z acc vs
theorem Mk1.step {Z' H' : Hp} {φ' : List Addr} {p : Addr} {acc : List P} (m : Mk1 K Z φ H p acc) (s : Step Z φ H Z' φ' H') : Mk1 K Z' φ' H' p acc := by
  obtain ⟨vs, h1, h2⟩ := m.at_
  refine ⟨fun hm => ?_, ?_, vs, s.fr p _ h1 m.out dat_lst.1, h2.mono s.hz⟩
  · obtain ⟨psi, rfl, hn⟩ := s.pre
    rcases List.mem_append.mp hm with hm | hm
    · exact m.out hm
    · exact (hn p hm).no h1 dat_lst.1
  · cases q : Z' p with
    | none => rfl
    | some o =>
      exfalso
      rcases s.zn p (by rw [q]; exact fun z => nomatch z) with z | z | z
      · exact z m.zn
      · exact z.no h1 dat_lst.1
      · exact m.out z
/-- one more item -/
theorem Mk1.push {st : Sr} {p : Addr} {acc : List P} {x : P} {v : V} {vs : List V} (m : Mk1 K Z φ H p acc) (rs : RS K Z φ st H) (h1 : H p = some (.lst vs)) (r : Rep K Z x v) :
    RS K Z φ st (upd H p (.lst (vs ++ [v]))) ∧ Mk1 K Z φ (upd H p (.lst (vs ++ [v]))) p (acc ++ [x]) := by
  obtain ⟨ws, h2, h3⟩ := m.at_
  rw [h1] at h2; cases h2
  refine ⟨⟨fun b u hb => ?_, rs.len, rs.nd, fun i b c hi hc => ?_, tabs_upd rs.tb (fun u hu => by rw [h1] at hu; cases hu; exact dat_lst), rs.zd⟩, m.out, m.zn, _, upd_same, h3.append (.one r)⟩
  · rw [upd_ne (by rintro rfl; rw [m.zn] at hb; cases hb)]; exact rs.same b u hb
  · have nb : b ≠ p := by rintro rfl; exact m.out (List.mem_of_getElem? hi)
    exact (rs.cells i b c hi hc).keep (Same.refl _) ⟨[], by simp⟩ (fun q => (rs.cells i b c hi hc).free q) fun u hu _ => by rw [upd_ne nb]; exact hu
end
section
variable {X : Cx} {W : WX}
def LcI (K : PySem.W.Frag) (W : WX) (i : Nat) (t : DT) (fe : DE) (η : Et) (Q : VK) (σ : St) (Z0 : Hp) (φ0 : List Addr) (H0 : Hp) (p : Addr) (Ex : Hp → Prop) (ys : List P) (H : Hp) : Prop :=
  ∃ Z φ st acc, RS K Z φ st H ∧ Slots K Z φ η σ ∧ Ex Z ∧ Mk1 K Z φ H p acc ∧ Step Z0 φ0 H0 Z φ H ∧ Af K W Z0 φ0 H0 (lcF (lcD i t fe η ys acc st)) (GE K Q)
variable {K : PySem.W.Frag} {i : Nat} {t : DT} {fe : DE} {η : Et} {Q : VK} {σ : St} {Z0 H0 : Hp} {φ0 : List Addr} {p : Addr} {Ex : Hp → Prop}
theorem LcI.done {H : Hp} (h0 : H0 p = none) (h : LcI K W i t fe η Q σ Z0 φ0 H0 p Ex [] H) : Q (.ref p) H := by
  obtain ⟨Z, φ, st, acc, rs, sl, ex, m, s, af⟩ := h
  obtain ⟨vs, h1, h2⟩ := m.at_
  have af2 : Af K W Z0 φ0 H0 (.ok (.cell st.length, st ++ [.lst acc])) (GE K Q) := af
  obtain ⟨psi, rfl, hn⟩ := s.pre
  refine af2 Z (φ0 ++ psi ++ [p]) H ⟨s.hz, ⟨psi ++ [p], by simp, fun a ha => ?_⟩, s.fr, s.zn, s.up, s.lk⟩ (rs.adopt m.out m.zn h1 h2) _ ⟨p, by rw [← rs.len]; simp, rfl⟩
  rcases List.mem_append.mp ha with ha | ha
  · exact hn a ha
  · simp at ha; subst ha; exact .of h0
theorem lcF_some {r : R (List P × Sr)} {Z : Hp} {φ : List Addr} {H : Hp} (h : Af K W Z φ H (lcF r) (GE K Q)) : ∃ a, r = .ok a := by
  cases r with
  | ok a => exact ⟨a, rfl⟩
  | exc => exact h.elim
  | stuck => exact h.elim
theorem LcI.turn (h0 : H0 p = none) (hm : ∀ Z Z', Same Z Z' → Ex Z → Ex Z') {x : P} {ys : List P} {H : Hp} {v : V} (h : LcI K W i t fe η Q σ Z0 φ0 H0 p Ex (x :: ys) H) (hv : ∀ Z, Same Z H → Ex Z → Rep K Z x v) :
    tT K W0 t (σ.set i (some v)) H (fun b H3 => if b = true then tE K W0 fe (σ.set i (some v)) H3 (fun y H4 => ∃ acc, H4 p = some (.lst acc) ∧ acc.length < sizeLine ∧ LcI K W i t fe η Q σ Z0 φ0 H0 p Ex ys (upd H4 p (.lst (acc ++ [y])))) else LcI K W i t fe η Q σ Z0 φ0 H0 p Ex ys H3) := by
  obtain ⟨Z, φ, st, acc, rs, sl, ex, m, s, af⟩ := h
  have slv : Slots K Z φ (η.set i (some (.fz x))) (σ.set i (some v)) := sl.set (hv Z rs.same ex)
  refine ⟨Z, φ, _, st, rs, slv, ?_⟩
  obtain ⟨⟨acc', st'⟩, he⟩ := lcF_some af
  have he0 := he
  unfold lcD at he
  cases e1 : t (η.set i (some (.fz x))) st with
  | exc => rw [e1] at he; cases he
  | stuck => rw [e1] at he; cases he
  | ok a =>
    rw [e1] at he
    intro Z1 φ1 H1 s1 rs1
    have he1 : (if a.1 = true then (fe (η.set i (some (.fz x))) a.2).bind fun b => match toP b.2 b.1 with
      | some (p, st2) => if acc.length < szL then lcD i t fe η ys (acc ++ [p]) st2 else .stuck
      | none => .stuck
    else lcD i t fe η ys acc a.2) = .ok (acc', st') := he
    have m1 := m.step s1
    by_cases ha : a.1 = true
    · rw [if_pos ha] at he1 ⊢
      refine ⟨Z1, φ1, _, a.2, rs1, slv.mono s1, ?_⟩
      cases e2 : fe (η.set i (some (.fz x))) a.2 with
      | exc => rw [e2] at he1; cases he1
      | stuck => rw [e2] at he1; cases he1
      | ok b =>
        rw [e2] at he1
        intro Z2 φ2 H2 s2 rs2 y ry
        have he2 : (match toP b.2 b.1 with
          | some (p, st2) => if acc.length < szL then lcD i t fe η ys (acc ++ [p]) st2 else .stuck
          | none => .stuck) = .ok (acc', st') := he1
        have m2 := m1.step s2
        obtain ⟨vs, h1, h2⟩ := m2.at_
        cases e3 : toP b.2 b.1 with
        | none => rw [e3] at he2; cases he2
        | some pr =>
          obtain ⟨q, st3⟩ := pr
          rw [e3] at he2
          dsimp only at he2
          split at he2
          · rename_i hz
            obtain ⟨Z3, f3, rs3, r3⟩ := toP_ok rs2 e3 ry
            have m3 := m2.step f3.step
            obtain ⟨rs4, m4⟩ := m3.push rs3 h1 r3
            have s3 := ((s.trans s1).trans s2).trans f3.step
            refine ⟨vs, h1, by rw [← h2.length, ← szL_eq]; exact hz, Z3, φ2, st3, acc ++ [q], rs4, ((sl.mono s1).mono s2).mono f3.step, hm _ _ f3.hz (hm _ _ s2.hz (hm _ _ s1.hz ex)), m4, ?_, ?_⟩
            · refine ⟨s3.hz, s3.pre, fun b o hb hn ht => ?_, s3.zn, fun b hb => ?_, fun b q u hb => by rw [upd_ne (by rintro rfl; rw [h0] at hb; cases hb)]; exact s3.lk b q u hb⟩
              · rw [upd_ne]
                · exact s3.fr b o hb hn ht
                · rintro rfl
                  rw [h0] at hb; cases hb
              · by_cases q : b = p
                · subst q; exact .of h0
                · exact s3.up b fun o ho => hb o (by rw [upd_ne q]; exact ho)
            · rw [he2]; rw [he0] at af; exact af
          · cases he2
    · rw [if_neg ha] at he1 ⊢
      exact ⟨Z1, φ1, a.2, acc, rs1, sl.mono s1, hm _ _ s1.hz ex, m1, s.trans s1, by rw [he1]; rw [he0] at af; exact af⟩
end
section
variable {X : Cx} {W : WX} {elt iter a : Expr} {scope : Scope} {x : Str} {i : Nat} {tpos pos p2 : Pos} {ifs : List Expr} {f fe : DE} {fs : DA} {t : DT}
theorem wipe1 (σ : St) (i : Nat) (v : V) : wipe ((wipe σ [i]).set i (some v)) [i] = wipe σ [i] := by
  show (((σ.set i none).set i (some v)).set i none) = σ.set i none
  rw [List.set_set, List.set_set]
theorem wipe1s (σ : St) (i : Nat) (v : V) : (wipe σ [i]).set i (some v) = σ.set i (some v) := by
  show ((σ.set i none).set i (some v)) = σ.set i (some v)
  rw [List.set_set]
end
end M
end
section
set_option Elab.async false
set_option linter.all false
set_option maxRecDepth 100000
set_option maxHeartbeats 0
namespace M
open PySem L2
end M
end
section
set_option Elab.async false
set_option linter.all false
set_option maxRecDepth 100000
set_option maxHeartbeats 0
namespace M
open PySem L2
structure PEa (X : Cx) (c : Code) (e : Expr) (t : TE) : Prop where
  run : ∀ (pins : List (Addr × Obj)) (s : Shared) (σ : St) (H : Hp) (Q : VK), Inv X pins σ H s → t σ H Q → _root_.PySem.wpAt (model X.prog X.w) X.A c (eval e X.env) (EP X pins σ Q) X.xe s
structure PSa (X : Cx) (c : Code) (e : Stmt) (t : TS) : Prop where
  run : ∀ (pins : List (Addr × Obj)) (s : Shared) (σ : St) (H : Hp) (D : Ends), Inv X pins σ H s → t D σ H → _root_.PySem.wpAt (model X.prog X.w) X.A c (exec e X.env) (SP X pins D) X.xe s
structure PSsa (X : Cx) (c : Code) (e : List Stmt) (t : TS) : Prop where
  run : ∀ (pins : List (Addr × Obj)) (s : Shared) (σ : St) (H : Hp) (D : Ends), Inv X pins σ H s → t D σ H → _root_.PySem.wpAt (model X.prog X.w) X.A c (execs e X.env) (SP X pins D) X.xe s
section
variable {X : Cx} {W : WX} {c : Code} {e : Expr} {st : Stmt} {rest : List Stmt} {pos : Pos} {t t' : TE} {u u' : TS}
theorem PEa.of (h : PE X e t) : PEa X c e t := ⟨fun pins s σ H Q I q => _root_.PySem.wpAt_of_wpAny (h.run pins s σ H Q I q)⟩
theorem PSa.of (h : PS X st u) : PSa X c st u := ⟨fun pins s σ H Q I q => _root_.PySem.wpAt_of_wpAny (h.run pins s σ H Q I q)⟩
theorem PSsa.of (h : PSs X rest u) : PSsa X c rest u := ⟨fun pins s σ H Q I q => _root_.PySem.wpAt_of_wpAny (h.run pins s σ H Q I q)⟩
theorem PEa.to (h : PEa X c e t) (i : ∀ σ H Q, t' σ H Q → t σ H Q) : PEa X c e t' := ⟨fun pins s σ H Q I q => h.run pins s σ H Q I (i σ H Q q)⟩
theorem PSa.to (h : PSa X c st u) (i : ∀ D σ H, u' D σ H → u D σ H) : PSa X c st u' := ⟨fun pins s σ H D I q => h.run pins s σ H D I (i D σ H q)⟩
theorem PSsa.to (h : PSsa X c rest u) (i : ∀ D σ H, u' D σ H → u D σ H) : PSsa X c rest u' := ⟨fun pins s σ H D I q => h.run pins s σ H D I (i D σ H q)⟩
end
end M
end
section
set_option Elab.async false
set_option linter.all false
set_option maxRecDepth 100000
set_option maxHeartbeats 0
namespace M
open PySem L2
structure SupK (K : PySem.W.Frag) (P : Program) (mg : Str → Option Value) (f cda cc D : Addr) (par : Str) : Prop where
  fn : ∃ oc od fd osl ar, K.lookup f = some ⟨oc, od, .func fd, osl⟩ ∧ (fd.params.posonlyargs ++ fd.params.args).head? = some ar ∧ ar.arg = par
  code : ∃ ccl cdd vs ccs file tf, K.lookup cda = some ⟨ccl, cdd, .fields vs, ccs⟩ ∧ vs[2]? = some (.str file tf) ∧ ((P.main.file : Str) == file) = true
  cell : ∃ cl cld csl, K.lookup cc = some ⟨cl, cld, .cell (some (.ref D)), csl⟩
  cls : ∃ cd, PySem.W.clsIn K D = some cd
  opq : PySem.W.nsIn K cStatics "thirdparty.any" = some none
  top : (P.main.scope.names.lookup ("super" : Str)).isSome = false
  free : mg "super" = none
theorem bt_super : bootBuiltins "super" = some (.type "super") := by decide +kernel
def clsOf (st : Sr) : D → Option Str
  | .fz (.obj c _) => some c
  | .cell n => match st[n]? with
    | some (.obj c _) => some c
    | some (.frz (.obj c _)) => some c
    | _ => none
  | _ => none
theorem clsOf_ok {K : PySem.W.Frag} {Z H : Hp} {φ : List Addr} {st : Sr} {d : D} {c : Str} {v : V} (rs : RS K Z φ st H) (e : clsOf st d = some c) (r : RepD K Z φ d v) : ∃ x dx gs, v = .ref x ∧ H x = some (.ins (He.ga K c) dx gs) := by
  have fzc : ∀ {c' : Str} {fs : List (Str × P)} {v : V}, Rep K Z (.obj c' fs) v → ∃ x dx gs, v = .ref x ∧ H x = some (.ins (He.ga K c') dx gs) := fun {c' fs v} h => by
    rw [Rep] at h
    obtain ⟨a, dx, gs, rfl, h2, _⟩ := h
    exact ⟨a, dx, gs, rfl, rs.same _ _ h2⟩
  cases d with
  | fz p =>
    cases p with
    | obj c' fs => cases e; exact fzc r
    | _ => cases e
  | cell n =>
    obtain ⟨a, h1, rfl⟩ := r
    obtain ⟨ct, hc, rc⟩ := rs.at_ h1
    have e' : (match st[n]? with
      | some (.obj c _) => some c
      | some (.frz (.obj c _)) => some c
      | _ => none) = some c := e
    rw [hc] at e'
    cases ct with
    | obj c' fs => cases e'; obtain ⟨_, dx, gs, h2, _⟩ := rc; exact ⟨a, dx, gs, rfl, h2⟩
    | frz p =>
      cases p with
      | obj c' fs => cases e'; exact fzc rc.1
      | _ => cases e'
    | lst xs => cases e'
    | dct xs => cases e'
    | lsD xs => cases e'
    | tuD xs => cases e'
    | ldct xs => cases e'
    | dn xs => cases e'
def look1 {α : Type} (c : Str) : List (Str × α) → Option α
  | [] => none
  | (x, F) :: r => if x = c then some F else look1 c r
theorem look1_mem {α : Type} {c : Str} {F : α} : ∀ {l : List (Str × α)}, look1 c l = some F → (c, F) ∈ l
  | (x, G) :: r, h => by
    unfold look1 at h
    split at h
    · rename_i e; cases h; subst e; exact List.mem_cons_self
    · exact List.mem_cons_of_mem _ (look1_mem h)
end M
end
section
set_option Elab.async false
set_option linter.all false
set_option maxRecDepth 100000
set_option maxHeartbeats 0
namespace M
open PySem PySem.Spec PyProof.Rows L2
/-- where the code and the cell of a method stand -/
structure FunC (K : PySem.W.Frag) (P : Program) (mg : Str → Option Value) (x qual : Str) (params : Arguments) (body : List Stmt) (scope : Scope) (par : Str) (D f : Addr) (fd : FuncData) (cda cc : Addr) : Prop where
  ex : ∃ (oc : Value) (od : Option Addr) (kV doc pm : Value) (an : Option Addr) (ct : Value) (osl : Array (Option Value)),
    fd = PySem.W.fnX x qual params body scope [("__class__", cc)] .none kV doc pm an (.ref cda) ct ∧ K.lookup f = some ⟨oc, od, .func fd, osl⟩ ∧ PySem.W.codeIn K (.ref cda) qual = true
  sup : SupK K P mg f cda cc D par
  kp : PySem.W.keepIn K (.ref f) = true
end M
end
section
set_option Elab.async false
set_option linter.all false
set_option maxRecDepth 100000
set_option maxHeartbeats 0
namespace M
open PySem PySem.Spec PyProof.Rows L2
end M
end
section
set_option Elab.async false
set_option linter.all false
set_option maxRecDepth 100000
set_option maxHeartbeats 0
namespace M
open PySem PySem.Spec PyProof.Rows L2
end M
end
section
set_option Elab.async false
set_option linter.all false
set_option maxRecDepth 100000
set_option maxHeartbeats 0
namespace M
open PySem PySem.Spec PyProof.Rows L2
theorem ints_reps {K : PySem.W.Frag} {Z : Hp} : ∀ (is : List Int), Reps K Z (is.map P.int) (is.map V.int)
  | [] => Reps.nil
  | i :: r => Reps.cons (by rw [Rep]) (ints_reps r)
def lstP' : P → Option (List P)
  | .lst xs => some xs
  | .rol xs => some xs
  | _ => none
end M
end
section
set_option Elab.async false
set_option linter.all false
set_option maxRecDepth 100000
set_option maxHeartbeats 0
namespace M
open PySem PySem.Spec PyProof.Rows L2
end M
end
section
set_option Elab.async false
set_option linter.all false
set_option maxRecDepth 100000
set_option maxHeartbeats 0
namespace M
open PySem L2
/-- one more object that belongs to none of the values -/
theorem RS.more {K : PySem.W.Frag} {Z H : Hp} {φ : List Addr} {st : Sr} {a : Addr} {o : HO} (h : RS K Z φ st H) (ha : H a = none) : RS K Z φ st (upd H a o) ∧ Step Z φ H Z φ (upd H a o) := by
  have hz : Z a = none := h.same.free ha
  have na : a ∉ φ := fun hm => by obtain ⟨u, hu⟩ := h.some_ hm; rw [ha] at hu; cases hu
  refine ⟨⟨fun b u hb => ?_, h.len, h.nd, fun i b c' hi hc' => ?_, tabs_upd h.tb (fun u hu => by rw [ha] at hu; cases hu), h.zd⟩, ⟨Same.refl _, ⟨[], by simp, by simp⟩, fun b u hb hn _ => ?_, fun b hb => .inl hb, fun b hb => ?_, fun b q u hb => by rw [upd_ne (by rintro rfl; rw [ha] at hb; cases hb)]; exact hb⟩⟩
  · rw [upd_ne (by rintro rfl; rw [hz] at hb; cases hb)]; exact h.same b u hb
  · have nb : b ≠ a := by rintro rfl; exact na (List.mem_of_getElem? hi)
    exact (h.cells i b c' hi hc').keep (Same.refl _) ⟨[], by simp⟩ (fun q => (h.cells i b c' hi hc').free q) fun u hu _ => by rw [upd_ne nb]; exact hu
  · rw [upd_ne (by rintro rfl; rw [ha] at hb; cases hb)]; exact hb
  · by_cases q : b = a
    · subst q; exact .of ha
    · exact fun o ho => hb o (by rw [upd_ne q]; exact ho)
section
variable {X : Cx} {W : WX} {x c : Str} {p pos apos : Pos} {e o : Expr} {es : List Expr} {f : DE} {fs : DA} {k : Nat} {ps : List Str} {m : Str}
def noF {α : Type} (m : Str) : List (Str × α) → Bool
  | [] => true
  | (k, _) :: r => !(m == k) && noF m r
theorem noF_F {K : PySem.W.Frag} {Z : Hp} {m : Str} : ∀ {fs : List (Str × P)} {gs : List (Str × V)}, noF m fs = true → RepF K Z fs gs → gs.lookup m = none
  | [], gs, _, h => by rw [RepF] at h; subst h; rfl
  | (k, p) :: r, gs, e, h => by
    rw [RepF] at h
    obtain ⟨v, ws, rfl, _, h2⟩ := h
    unfold noF at e
    rw [Bool.and_eq_true, Bool.not_eq_true'] at e
    rw [List.lookup_cons, e.1]
    exact noF_F e.2 h2
theorem noF_D {K : PySem.W.Frag} {Z : Hp} {φ : List Addr} {m : Str} : ∀ {fs : List (Str × D)} {gs : List (Str × V)}, noF m fs = true → RepDF K Z φ fs gs → gs.lookup m = none
  | [], gs, _, h => by cases h; rfl
  | (k, p) :: r, gs, e, h => by
    obtain ⟨v, ws, rfl, _, h2⟩ := h
    unfold noF at e
    rw [Bool.and_eq_true, Bool.not_eq_true'] at e
    rw [List.lookup_cons, e.1]
    exact noF_D e.2 h2
/-- the class of an instance that has no attribute m of its own -/
def clsM (m : Str) (st : Sr) : D → Option Str
  | .fz (.obj c fs) => if noF m fs then some c else none
  | .cell n => match st[n]? with
    | some (.obj c fs) => if noF m fs then some c else none
    | some (.frz (.obj c fs)) => if noF m fs then some c else none
    | _ => none
  | _ => none
theorem clsM_ok {K : PySem.W.Frag} {Z H : Hp} {φ : List Addr} {st : Sr} {d : D} {c m : Str} {v : V} (rs : RS K Z φ st H) (e : clsM m st d = some c) (r : RepD K Z φ d v) : ∃ x dx gs, v = .ref x ∧ H x = some (.ins (He.ga K c) dx gs) ∧ gs.lookup m = none := by
  have fzc : ∀ {c' : Str} {fs : List (Str × P)} {v : V}, noF m fs = true → Rep K Z (.obj c' fs) v → ∃ x dx gs, v = .ref x ∧ H x = some (.ins (He.ga K c') dx gs) ∧ gs.lookup m = none := fun {c' fs v} hn h => by
    rw [Rep] at h
    obtain ⟨a, dx, gs, rfl, h2, h3⟩ := h
    exact ⟨a, dx, gs, rfl, rs.same _ _ h2, noF_F hn h3⟩
  cases d with
  | fz p =>
    cases p with
    | obj c' fs =>
      have e' : (if noF m fs then some c' else none) = some c := e
      split at e'
      · rename_i hn; cases e'; exact fzc hn r
      · cases e'
    | _ => cases e
  | cell n =>
    obtain ⟨a, h1, rfl⟩ := r
    obtain ⟨ct, hc, rc⟩ := rs.at_ h1
    have e' : (match st[n]? with
      | some (.obj c fs) => if noF m fs then some c else none
      | some (.frz (.obj c fs)) => if noF m fs then some c else none
      | _ => none) = some c := e
    rw [hc] at e'
    cases ct with
    | obj c' fs =>
      dsimp only at e'
      split at e'
      · rename_i hn; cases e'; obtain ⟨_, dx, gs, h2, h3⟩ := rc; exact ⟨a, dx, gs, rfl, h2, noF_D hn h3⟩
      · cases e'
    | frz p =>
      cases p with
      | obj c' fs =>
        dsimp only at e'
        split at e'
        · rename_i hn; cases e'; exact fzc hn rc.1
        · cases e'
      | _ => cases e'
    | lst xs => cases e'
    | dct xs => cases e'
    | lsD xs => cases e'
    | tuD xs => cases e'
    | ldct xs => cases e'
    | dn xs => cases e'
def dMeth (m : Str) (tab : List (Str × DF)) (f : DE) (g : DA) : DE := fun η st => (f η st).bind fun a => match (clsM m a.2 a.1).bind fun c => look1 c tab with
  | some F => (g η a.2).bind fun b => callF F (a.1 :: b.1) η b.2
  | none => .stuck
/-- what a class's method is -/
def MethT (P : Program) (w : World) (K : PySem.W.Frag) (mg : Str → Option Value) (base : Heap) (k : Nat) (m : Str) (ps : List Str) (c : Str) (F : DF) : Prop :=
  ∃ f2 fd, Cls K (He.ga K c) ∧ Meth K (He.ga K c) m f2 ∧ FnOk P w K mg base (L2.CX P w) k f2 fd ps (spF K F) ∧ Binds K fd ps []
theorem de_meth {tab : List (Str × DF)} {pl : Sem Bool} {j : Nat} (tk : Takes X W) (hT : ∀ c F, (c, F) ∈ tab → MethT X.prog X.w X.K X.mg X.base k m ps c F) (hr : Room j X.A) (he : PE X o (tE X.K W f)) (ha : PA X (e :: es) (tA X.K W fs)) (hk : k ≤ j := by decide)
    (hst : starEach (e :: es) X.env = (false, eval e X.env) :: starEach es X.env := by rfl) (hpl : (backTo pos (starEach es X.env)).any (·.1) = false := by rfl)
    (ht : eval (.Call (.Attribute o m apos) (e :: es) [] pos) X.env = (do
      let ov ← eval o X.env
      standAt apos.atName
      let (f, first) ← holding [ov] (getMethod ov m pl)
      callWith pos f first (backTo pos (starEach (e :: es) X.env)) (backToKw pos (keywordEach [] X.env))) := by rfl) :
    PE X (.Call (.Attribute o m apos) (e :: es) [] pos) (tE X.K W (dMeth m tab f fs)) := by
  refine ⟨fun pins s σ H Q I h => ?_⟩
  obtain ⟨Z, φ, η, st, rs, sl, af⟩ := h
  refine PySem.W.methodCall_KW (pl := pl) (thn (he.run pins s σ H (fun v H1 => ∃ d Z φ st, RS X.K Z φ st H1 ∧ Slots X.K Z φ η σ ∧ RepD X.K Z φ d v ∧ Af X.K W Z φ H1 (match (clsM m st d).bind fun c => look1 c tab with
    | some F => (fs η st).bind fun b => callF F (d :: b.1) η b.2
    | none => .stuck) (GE X.K Q)) I ⟨Z, φ, η, st, rs, sl, af.bind.mono fun a Z' φ' H' t g' rs' v r => ⟨a.1, Z', φ', a.2, rs', sl.mono t, r, g'⟩⟩) fun u s1 ⟨v, H1, I1, r1, q1⟩ => ?_) ht
  obtain ⟨d, Z1, φ1, st1, rs1, sl1, rd, af1⟩ := q1
  split at af1
  · rename_i F eF
    obtain ⟨c, ec, el⟩ := Option.bind_eq_some_iff.mp eF
    obtain ⟨x, dx, gs, rfl, hx, hn⟩ := clsM_ok rs1 ec rd
    obtain ⟨f2, fd, hc, hm, Fo, hb⟩ := hT c F (look1_mem el)
    obtain rfl : u = Value.ref x := r1
    refine getmeth_ok I1 hx hc hm hn ?_
    refine PySem.W.callWith_K (first := [.ref x]) (h₀ := X.base) I.ok.mod.kin hm.kp (thn (ha.run pos pins s1 σ H1 (fun vs H2 => spF X.K F (.ref x :: vs) H2 Q (WE W σ)) I1 ⟨Z1, φ1, η, st1, rs1, sl1, af1.bind.mono fun a Z' φ' H' t g' rs' vs r => call_sp (ds := d :: a.1) rs' (sl1.mono t) ⟨_, vs, rfl, rd.mono t.hz t.app, r⟩ g'⟩) fun us s2 ⟨vs, H2, I2, r, q2⟩ => ⟨I2.kIn, ?_⟩) hst hpl
    have r6 : Vals (.ref x :: vs) (.ref x :: us) := .cons rfl r
    have hl : (Value.ref x :: us).length = ps.length := by rw [← r6.length]; exact Fo.len _ _ _ _ q2
    have bb := hb s2 (.ref x :: us) I2.kIn (by rw [List.append_nil]; exact hl)
    rw [List.append_nil] at bb
    refine wpAny_call (codeAny_mono (Fo.run X.A X.stack s2 H2 ⟨.ref x :: us, []⟩ (.ref x :: us) (.ref x :: vs) Q (WE W σ) (hr.mono hk) I2.env0 bb r6 q2) fun r s' hq => ?_)
    cases r with
    | error e => exact passAt tk σ pins H2 s2 e s' I2 hq
    | ok fl =>
      cases fl with
      | ret u => exact I2.after hq
      | next => exact False.elim hq
      | brk => exact False.elim hq
      | cont => exact False.elim hq
  · exact af1.elim
end
end M
end
section
set_option Elab.async false
set_option linter.all false
set_option maxRecDepth 100000
set_option maxHeartbeats 0
namespace M
open PySem PySem.W PySem.Calls PyProof.Rows PySem.HandSPX
def exB (f msg : Str) (j : Nat) (a1 a2 a3 a4 a5 a6 b1 b2 b3 b4 : Pos) : List Stmt :=
  [.Expr (.Call (.Attribute (.Call (.Name "super" a1) [] [] a2) "__init__" a3) [.Constant (.str msg) j a4] [] a5) a6, .Assign [.Attribute (.Name "self" b1) f b2] (.Name f b3) b4]
structure XCls (K : Frag) (c : Str) (C : Addr) : Prop where
  cls : ∃ nm q N bs bm sn sub ab col dd k0 k1 k2 k3 k5, K.lookup C = some (excClassObj nm q C N bs bm true sn sub ab col dd k0 k1 k2 k3 k5 "ValueError.__new__") ∧ refsVE bm = true
  kC : keepIn K (.ref C) = true
  exC : subIn K (.ref C) (.type "BaseException") = some true
  tyC : typeIn K (.ref C) = some (.type "type")
structure XTxt (K : Frag) (P : Program) (mg : Str → Option Value) (c f msg qual : Str) (params : Arguments) (body : List Stmt) (scope : Scope) (C fI cda cc : Addr) (fd : FuncData) : Prop where
  xc : XCls K c C
  sa : findIn K (.ref C) "__setattr__" = some (some (.builtin "object.__setattr__"))
  noN : findIn K (.ref C) f = some none
  iC : findIn K (.ref C) "__init__" = some (some (.ref fI))
  tC : typeIn K (.ref fI) = some (.type "function")
  sup : ks_superIn K C C "__init__" = some (some (.builtin "ValueError.__init__"))
  isV : subIn K (.ref C) (.type "ValueError") = some true
  me : mroIn K C (.ref C) = some true
  ga : findIn K (.ref C) "__getattribute__" = some (some (.builtin "BaseException.__getattribute__"))
  gg : findIn K (.ref C) "__getattr__" = some none
  hdC : hasDictIn K C = true
  fn : FunC K P mg "__init__" qual params body scope "self" C fI fd cda cc
/-- what a def's text says of its names -/
structure XScope (f : Str) (params : Arguments) (scope : Scope) : Prop where
  kind : scope.kind = .function
  co : scope.isCoroutine = false
  gen : scope.isGenerator = false
  nc : ∀ y ∈ scope.names, y.2 ≠ .cell
  sl : scope.names.lookup ("self" : Str) = some .local
  fl : scope.names.lookup f = some .local
  su : scope.names.lookup ("super" : Str) = some .globalImplicit
  cl : scope.names.lookup ("__class__" : Str) = some .free
  ne : f ≠ "self"
  nd : (f == ("__debug__" : Str)) = false
/-- what __init__ leaves of a fresh exception at x -/
structure InitEnd (h h' : Heap) (x C dx t1 : Addr) (f : Str) (v : Value) : Prop where
  keep : ∀ b o, b ≠ x → h.get? b = some o → h'.get? b = some o
  obj : h'.get? x = some { cls := .ref C, dict := some dx, data := .fields #[.ref t1, .none, .none, .none, .bool false, .none] }
  dbig : h.objs.size ≤ dx
  dne : dx ≠ x
  ns : h'.Ns1 dx (fun y => if y = f then some v else none)
structure OwnMade (h h' : Heap) (e C d : Addr) (f : Str) (v : Value) : Prop where
  keep : ∀ b o, h.get? b = some o → h'.get? b = some o
  new : h.objs.size ≤ e
  obj : ∃ oe vs, h'.get? e = some oe ∧ oe.cls = .ref C ∧ oe.dict = some d ∧ oe.data = .fields vs ∧ vs[1]? = some .none
  dbig : h.objs.size ≤ d
  dne : d ≠ e
  ns : h'.Ns1 d (fun y => if y = f then some v else none)
theorem quiet_fn {env : Env} (h : env.scope.kind = .function) : interactive env = false := by
  unfold interactive
  rw [h]
  rfl
theorem one_size (v : Value) : [v].length ≤ sizeLine := by
  rw [sizeLine_eq]
  exact (by decide : 1 ≤ 16777216)
theorem ldE {Mo : Model} {A : Around} {E : Value → Shared → Prop} {s : Shared} {env : Env} {m : Str → Option Value} {x : Str} {pos : Pos} {v : Value} {Q : Value → Shared → Prop} (hk : env.scope.kind = .function) (hl : env.kindOf x = some .local) (hn : s.heap.Ns env.locals m) (hv : m x = some v) (hd : (x == ("__debug__" : Str)) = false) (h : Q v s) :
    wpAny Mo A (eval (.Name x pos) env) Q E s := wpAny_Name (wpAny_loadName_local hk hl hn hv h) hd
section
variable {prog : Program} {w : World} {A : Around} {R : Result → Shared → Prop} {s : Shared} {K : Frag} {mg mb : Str → Option Value} {C fI cda cc : Addr} {fd : FuncData} {c f msg qual : Str} {params : Arguments} {scope : Scope} {j : Nat} {a1 a2 a3 a4 a5 a6 b1 b2 b3 b4 : Pos}
/-- the bound ValueError.__init__ called on a fresh exception -/
theorem call_mw {E : Value → Shared → Prop} {u x t0 : Addr} {rest : List Value} {Q : Value → Shared → Prop} {nm q : Str} {N : Addr} {bs bm : List Value} {hdct : Bool} {sn : List Str} {sub : List Value} {ab : Bool} {col : Option Bool} {dd : Option Addr} {k0 k1 k2 k3 k5 : Option Value}
    (hC : s.heap.get? C = some (excClassObj nm q C N bs bm hdct sn sub ab col dd k0 k1 k2 k3 k5 "ValueError.__new__")) (he : s.heap.get? x = some (excO C t0)) (hu : s.heap.get? u = some (kxs_mw "ValueError.__init__" x)) (hz : rest.length ≤ sizeLine)
    (h : ∀ h' t1, (∀ b o, b ≠ x → s.heap.get? b = some o → h'.get? b = some o) → h'.get? x = some (excO C t1) → Q .none { s with heap := h' }) :
    wpAny (model prog w) A (call (.ref u) rest) Q E s := by
  obtain ⟨hh, g, d, tk, os⟩ := s
  refine wpAny_call (codeAny_of_tree ?_)
  show wpAny _ A.in1 (callAny (.ref u) ⟨rest, []⟩) _ _ _
  simp only [callAny]
  refine wpAny_bind (wpAny_load hu ?_)
  simp only [kxs_mw, show (Value.type "method-wrapper" == Value.type "method" || Value.type "method-wrapper" == Value.type "builtin_function_or_method" || Value.type "method-wrapper" == Value.type "method-wrapper") = true by decide, if_true]
  refine KFB.if_so (by decide) ?_
  refine wpAny_bind (check_bound_init F.excBase_ValueError.toExcCallFacts hC he rfl ?_)
  refine wpAny_bind (wpAny_pure (wpAny_pure ?_))
  refine ⟨plainId_quiet F.excBase_ValueError.init.plain _, codeAny_builtin F.excBase_ValueError.initEntry ?_⟩
  exact exc_init_tree (cls := .ref C) (t0 := t0) (dv := none) (c2 := .none) (c3 := .none) (b4 := .bool false) he hz fun h' k e' t' => h h' _ k e'
theorem ex_init (T : XTxt K prog mg c f msg qual params (exB f msg j a1 a2 a3 a4 a5 a6 b1 b2 b3 b4) scope C fI cda cc fd) (S : XScope f params scope) {pl : Sem Bool} (hev : ∀ env : Env, eval (.Call (.Attribute (.Call (.Name "super" a1) [] [] a2) "__init__" a3) [.Constant (.str msg) j a4] [] a5) env = (do
      let ov ← attributeBase (.Call (.Name "super" a1) [] [] a2) "__init__" env (eval (.Call (.Name "super" a1) [] [] a2) env)
      standAt a3.atName
      let (f, first) ← holding [ov] (getMethod ov "__init__" pl)
      callWith a5 f first (backTo a5 (starEach [.Constant (.str msg) j a4] env)) [])) (hbind : ∀ (s : Shared) (u v kV doc pm ct : Value) (an : Option Addr), BindsTo s (fnX "__init__" qual params (exB f msg j a1 a2 a3 a4 a5 a6 b1 b2 b3 b4) scope [("__class__", cc)] .none kV doc pm an (.ref cda) ct) ⟨[u, v], []⟩ [("self", u), (f, v)])
    {x t0 : Addr} {v : Value} (X : K.In s.heap) (hg : s.heap.Ns mainGlobals mg) (hb : s.heap.Ns builtinsNs mb) (hbb : ∀ x : Str, x ≠ "__name__" → mb x = bootBuiltins x) (hlim : s.heap.NoLimit) (hx : s.heap.get? x = some (excO C t0)) (hnx : K.lookup x = none) (hroom : A.depth < recursionLimit)
    (hq : ∀ h' tk dx t1, InitEnd s.heap h' x C dx t1 f v → R (.ok (.ret .none)) { s with heap := h', toks := tk }) :
    codeAny (model prog w) A (.call (.ref fI) ⟨[.ref x, v], []⟩) R s := by
  obtain ⟨oc, od, kV, doc, pm, an, ct, osl, rfl, lk, hcd⟩ := T.fn.ex
  obtain ⟨nm, q, N, bs, bm, sn, sub, ab, col, dd, k0, k1, k2, k3, k5, hC, hbm⟩ := T.xc.cls
  have hcl : clsIn K C = some { name := nm, bases := bs, mro := .ref C :: bm, ns := N, qualname := q, hasDict := true, slotNames := sn, subclasses := sub, abstract := ab, collection := col, hasDel := false } := by unfold clsIn; rw [hC] <;> rfl
  have SK := T.fn.sup
  obtain ⟨foc, fod, fd0, fosl, ar, hf, hp, har⟩ := SK.fn
  obtain ⟨ccl, cdd, vs0, ccs, file, tf, hcode, hvs, hfile⟩ := SK.code
  obtain ⟨cl, cld, csl, hcell⟩ := SK.cell
  refine codeAny_call_function hroom (X _ _ lk) rfl S.co S.gen rfl (codeRec_of X hcd) (hbind _ _ _ _ _ _ _ _ _ _ _ _ ?_)
  refine wpAny_newFunctionEnv S.nc (fun y hy => ?_) (fun h₁ hns hsb => ?_) S.kind
  · rcases List.mem_cons.mp hy with rfl | hy
    · exact S.sl
    · simp at hy; subst hy; exact S.fl
  have k : ∀ b o, s.heap.get? b = some o → h₁.get? b = some o := fun b o e => hsb.extBut b o (Nat.ne_of_lt (Heap.lt_size e)) (Heap.get?_push_of_some _ e)
  refine ⟨hlim.keeps k, ks_codeAny_funcAt ?_⟩
  have hself : ([(("self" : Str), Value.ref x), (f, v)].reverse.lookup ("self" : Str)) = some (Value.ref x) := by
    have e1 : (("self" : Str) == f) = false := by simpa using (Ne.symm S.ne)
    show List.lookup ("self" : Str) [(f, v), (("self" : Str), Value.ref x)] = _
    rw [List.lookup_cons, e1]
    rfl
  have hfv : ([(("self" : Str), Value.ref x), (f, v)].reverse.lookup f) = some v := by
    show List.lookup f [(f, v), (("self" : Str), Value.ref x)] = _
    rw [List.lookup_cons]
    simp
  have X₁ : K.In h₁ := X.keeps k
  have hx₁ := k _ _ hx
  have hxC : x ≠ C := by
    rintro rfl
    rw [hnx] at hC; cases hC
  -- super().__init__(text)
  refine ks_wpAt_execs_cons ?_
  refine ks_wpAt_Expr_any ?_ (quiet_fn S.kind) rfl
  refine ks_wpAt_MethodCall (pl := pl) ?_ (hev _)
  refine ks_wpAt_super_base (f := fI) (cc := cda) S.su S.cl (by decide) rfl (X₁ _ _ hf) rfl hp rfl (X₁ _ _ hcode) rfl hvs hfile SK.top ?_
  refine ks_loadName_global S.kind S.su (Calls.loadGlobal_builtin (hg.keeps k) SK.free (hb.keeps k) ((hbb _ (by decide)).trans bt_super) ⟨rfl, ?_⟩)
  refine wpAny_loadName_free S.kind S.cl rfl ⟨_, X₁ _ _ hcell, rfl⟩ ?_
  rw [har]
  refine wpAny_loadName_local S.kind S.sl hns hself ?_
  refine ks_wpAny_isType_cls (X₁ _ _ hC) rfl ⟨rfl, ?_⟩
  refine ks_wpAny_call_super (X₁ _ _ hC) rfl hx₁ rfl (fun c z => by cases z) (looks_mroIn X₁ T.me) fun h₂ e₂ k₂ => ?_
  have X₂ : K.In h₂ := X₁.keeps k₂
  have hx₂ := k₂ _ _ hx₁
  have hsup : alongIn K "__init__" (((Value.ref C :: bm).dropWhile (· != .ref C)).drop 1) = some (some (.builtin "ValueError.__init__")) := by
    have q := T.sup
    unfold ks_superIn at q
    rw [hcl] at q
    exact q
  have hI : Looks (model prog w) h₂ (isInstance (.ref x) (.type "ValueError")) true := (NwA.type_at hx₂ rfl).andThen (looks_subIn X₂ T.isV)
  refine kxs_getMethod kxs_ValueError e₂ (looks_opaque X₂ SK.opq) (l₀ := .ref C :: bm) (fun A Q E s k q => wpAny_bind ((looks_clsIn X₂ hcl) A _ E s k (wpAny_pure q))) rfl X₂ hsup hI hxC (by decide) ?_
  refine kxs_callWith (i := "ValueError.__init__") (x := x) rfl (evalArgs_plain ?_)
  refine spliced_more (Calls.Constant_str (spliced_none ?_))
  refine ⟨Heap.get?_push_size _ rfl, ?_⟩
  have k₃ : ∀ b o, h₂.get? b = some o → (h₂.push (kxs_mw "ValueError.__init__" x)).get? b = some o := fun b o e => Heap.get?_push_of_some _ e
  refine call_mw (k₃ _ _ (X₂ _ _ hC)) (k₃ _ _ hx₂) (Heap.get?_push_size _ rfl) (one_size _) fun h₄ t1 k₄ hx₄ => ?_
  -- self.f = f
  have kk : ∀ b o, b ≠ x → h₁.get? b = some o → h₄.get? b = some o := fun b o hb e => k₄ b o hb (k₃ _ _ (k₂ _ _ e))
  have X₄ : K.In h₄ := fun a o e => kk a o (fun z => by rw [z, hnx] at e; cases e) (X₁ a o e)
  have hxL : s.heap.objs.size ≠ x := Nat.ne_of_gt (Heap.lt_size hx)
  have hns₄ : h₄.Ns s.heap.objs.size (fun y => [(("self" : Str), Value.ref x), (f, v)].reverse.lookup y) := by
    obtain ⟨ob, es, ep, ho, r⟩ := hns
    exact ⟨ob, es, ep, kk _ _ hxL ho, r⟩
  refine _root_.PySem.wpAt_of_wpAny (wpAny_execs_cons (plainObj_wpAny_Assign_Attribute ?_ rfl))
  refine ldE S.kind S.fl hns₄ hfv S.nd (ldE S.kind S.sl hns₄ hself (by decide) ?_)
  refine set_plain X₄ (ox := excO C t1) (od := none) ⟨hx₄, rfl, rfl, trivial⟩ T.sa ?_
  refine exc_osa X₄ hx₄ hcl (show refsVE (.ref C :: bm) = true from hbm) rfl T.noN (fun h₅ tk₅ dx k₅ dn dne hx₅ hn₅ => ?_)
  show wpAny _ _ (execs _ _) _ _ _
  have z : s.heap.objs.size < h₄.objs.size := hns₄.lt
  exact wpAny_execs_nil (hq h₅ tk₅ dx t1 ⟨fun b o hb e => k₅ b o hb (kk b o hb (k b o e)), hx₅, Nat.le_of_lt (Nat.lt_of_lt_of_le z dn), dne, hn₅⟩)
end
end M
end
section
set_option Elab.async false
set_option linter.all false
set_option maxRecDepth 100000
set_option maxHeartbeats 0
namespace M
section
open PySem PySem.W PySem.Calls PyProof.Rows PySem.HandSPX
variable {prog : Program} {w : World} {A : Around} {R : Result → Shared → Prop} {s : Shared} {K : Frag} {mg mb : Str → Option Value} {C fI cda cc : Addr} {fd : FuncData} {c f msg qual : Str} {params : Arguments} {scope : Scope} {j : Nat} {a1 a2 a3 a4 a5 a6 b1 b2 b3 b4 : Pos}
/-- C(v) -/
theorem ex_made (T : XTxt K prog mg c f msg qual params (exB f msg j a1 a2 a3 a4 a5 a6 b1 b2 b3 b4) scope C fI cda cc fd) (S : XScope f params scope) {pl : Sem Bool} (hev : ∀ env : Env, eval (.Call (.Attribute (.Call (.Name "super" a1) [] [] a2) "__init__" a3) [.Constant (.str msg) j a4] [] a5) env = (do
      let ov ← attributeBase (.Call (.Name "super" a1) [] [] a2) "__init__" env (eval (.Call (.Name "super" a1) [] [] a2) env)
      standAt a3.atName
      let (f, first) ← holding [ov] (getMethod ov "__init__" pl)
      callWith a5 f first (backTo a5 (starEach [.Constant (.str msg) j a4] env)) []))
    (hbind : ∀ (s : Shared) (u v kV doc pm ct : Value) (an : Option Addr), BindsTo s (fnX "__init__" qual params (exB f msg j a1 a2 a3 a4 a5 a6 b1 b2 b3 b4) scope [("__class__", cc)] .none kV doc pm an (.ref cda) ct) ⟨[u, v], []⟩ [("self", u), (f, v)])
    {v : Value} (X : K.In s.heap) (hg : s.heap.Ns mainGlobals mg) (hb : s.heap.Ns builtinsNs mb) (hbb : ∀ x : Str, x ≠ "__name__" → mb x = bootBuiltins x) (hlim : s.heap.NoLimit) (hroom : A.depth + 1 < recursionLimit)
    (hq : ∀ h' tk e d, OwnMade s.heap h' e C d f v → R (.ok (.ret (.ref e))) { s with heap := h', toks := tk }) :
    codeAny (model prog w) A (.call (.ref C) ⟨[v], []⟩) R s := by
  obtain ⟨nm, q, N, bs, bm, sn, sub, ab, col, dd, k0, k1, k2, k3, k5, hC, hbm⟩ := T.xc.cls
  obtain ⟨hp, g, dr, tk, os⟩ := s
  have k : ∀ b o, hp.get? b = some o → ((hp.push (kdv_tup [v])).push (excO C hp.objs.size)).get? b = some o := fun b o e => Heap.get?_push_of_some _ (Heap.get?_push_of_some _ e)
  have hget : ((hp.push (kdv_tup [v])).push (excO C hp.objs.size)).get? (hp.objs.size + 1) = some (excO C hp.objs.size) := by heap_get
  have hnx : K.lookup (hp.objs.size + 1) = none := by
    cases e : K.lookup (hp.objs.size + 1) with
    | none => rfl
    | some o =>
      have z : hp.get? (hp.objs.size + 1) = some o := X _ _ e
      exact absurd (Nat.lt_of_succ_lt (Heap.lt_size z)) (Nat.lt_irrefl _)
  refine call_own F.excBase_ValueError (fun X => refsVE_contains X bm hbm) (X _ _ hC) (looks_findIn X T.iC) (fun self => bind_fn X self T.tC) (one_size v) ?_
  refine ex_init (s := ⟨(hp.push (kdv_tup [v])).push (excO C hp.objs.size), g, dr, tk, os⟩) T S hev hbind (X.keeps k) (hg.keeps k) (hb.keeps k) hbb (hlim.keeps k) hget hnx ?_ fun h' tk' dx t1 ⟨k', hx, dn, dne, hns⟩ => ?_
  · show A.depth + 1 < recursionLimit
    exact hroom
  · have old : ∀ b o, hp.get? b = some o → h'.get? b = some o := fun b o e => k' b o (Nat.ne_of_lt (Nat.lt_succ_of_lt (Heap.lt_size e))) (k b o e)
    have z : hp.objs.size + 1 + 1 ≤ dx := by
      first
        | (simpa only [Heap.size_push] using dn)
        | exact dn
        | (have q := dn; rw [Heap.size_push, Heap.size_push] at q; exact q)
    exact ⟨rfl, hq h' tk' (hp.objs.size + 1) dx ⟨old, Nat.le_succ _, ⟨_, _, hx, rfl, rfl, rfl, rfl⟩, Nat.le_trans (Nat.le_trans (Nat.le_succ _) (Nat.le_succ _)) z, dne, hns⟩⟩
end
open PySem PySem.Spec PyProof.Rows L2
/-- what is known of an error's class with one field -/
structure XOk (P : Program) (K : PySem.W.Frag) (mg : Str → Option Value) (x c f : Str) : Prop where
  ex : ∃ (msg qual : Str) (params : Arguments) (scope : Scope) (fI cda cc : Addr) (fd : FuncData) (j : Nat) (a1 a2 a3 a4 a5 a6 b1 b2 b3 b4 : Pos) (pl : Sem Bool), XTxt K P mg c f msg qual params (exB f msg j a1 a2 a3 a4 a5 a6 b1 b2 b3 b4) scope (He.ga K c) fI cda cc fd ∧ XScope f params scope ∧
    (∀ env : Env, eval (.Call (.Attribute (.Call (.Name "super" a1) [] [] a2) "__init__" a3) [.Constant (.str msg) j a4] [] a5) env = (do
      let ov ← attributeBase (.Call (.Name "super" a1) [] [] a2) "__init__" env (eval (.Call (.Name "super" a1) [] [] a2) env)
      standAt a3.atName
      let (f, first) ← holding [ov] (getMethod ov "__init__" pl)
      callWith a5 f first (backTo a5 (starEach [.Constant (.str msg) j a4] env)) [])) ∧
    (∀ (s : Shared) (u v kV doc pm ct : Value) (an : Option Addr), BindsTo s (PySem.W.fnX "__init__" qual params (exB f msg j a1 a2 a3 a4 a5 a6 b1 b2 b3 b4) scope [("__class__", cc)] .none kV doc pm an (.ref cda) ct) ⟨[u, v], []⟩ [("self", u), (f, v)])
  gC : mg x = some (.ref (He.ga K c))
theorem relO_one {v : V} {v' : Value} {n : Str} (r : RelV v v') (f : Str) : RelO (List.lookup f [(n, v)]) (if f = n then some v' else none) := by
  by_cases hw : f = n
  · subst hw
    rw [if_pos rfl]
    have q : List.lookup f [(f, v)] = some v := by simp [List.lookup]
    rw [q]
    exact r
  · rw [if_neg hw]
    have qw : (f == n) = false := by simpa using hw
    have q2 : List.lookup f [(n, v)] = none := by simp [List.lookup, qw]
    rw [q2]
    trivial
def tMkX (C : Addr) (n : Str) (ta : TA) : L2.St → Hp → XK → Prop := fun σ H Q => ta σ H fun vs H1 => ∃ v, vs = [v] ∧ ∀ d, H1 d = none → Q (.ref C) (some d) (upd H1 d (.xd [(n, v)]))
def dRaise (c f : Str) (g : DA) : DS := fun η st => (g η st).bind fun a => match toPs a.2 a.1 with
  | some ([p], st') => .exc c (some [(f, p)]) η st'
  | _ => .stuck
section
variable {X : Cx} {W : WX} {x c n : Str} {a : Expr} {p pos pos2 : Pos} {k : Nat} {g : DA}
theorem pmk_x {ta : TA} (T : XOk X.prog X.K X.mg x c n) (hr : Room k X.A) (ha : PA X [a] ta) (hg : Gl X x) (hdb : (x == ("__debug__" : Str)) = false := by decide)
    (he : starEach (a :: []) X.env = (false, eval a X.env) :: starEach [] X.env := by rfl) (hpl : (backTo pos (starEach [] X.env)).any (·.1) = false := by rfl) :
    PMk X (.Call (.Name x p) [a] [] pos) (tMkX (He.ga X.K c) n ta) := by
  intro pins s σ H Q I h
  obtain ⟨msg, qual, params, scope, fI, cda, cc, fd, j, a1, a2, a3, a4, a5, a6, b1, b2, b3, b4, pl, XT, XS, hev, hbind⟩ := T.ex
  refine wpAny_Call_Name_kw (ld_glob I hg T.gC ?_ hdb)
  refine PySem.W.callWith_K (h₀ := X.base) I.ok.mod.kin XT.xc.kC (thn (ha.run pos pins s σ H _ I h) fun us s1 hh => ?_) he hpl
  obtain ⟨vs, H1, I1, r1, v, ev, q1⟩ := hh
  subst ev
  refine ⟨I1.kIn, ?_⟩
  cases r1 with
  | cons rv rn =>
    rename_i v' us'
    cases rn
    show wpAny _ _ (call (.ref (He.ga X.K c)) [v']) _ _ _
    have hlim := I1.nolimit
    obtain ⟨mb, hb1, hb2⟩ := I1.mod.blt
    have hgl := I1.mod.glob.keeps I1.bk
    have hbl := hb1.keeps I1.bk
    obtain ⟨hp, gs, dr, tk, os⟩ := s1
    refine wpAny_call (ex_made XT XS hev hbind I1.kIn hgl hbl hb2 hlim (by have := hr.dp; omega) fun h' tk' e d M => ?_)
    show MkP X pins σ Q (.ref e) ⟨h', gs, dr, tk', os⟩
    obtain ⟨oe, fv, hoe, hc, hd, hdat, h1⟩ := M.obj
    have hns := M.ns
    obtain ⟨G', g1, g2⟩ := restrict h' fun b => decide (b ≠ e)
    have gk : ∀ b, b ≠ e → G'.get? b = h'.get? b := fun b hb => g1 b (decide_eq_true hb)
    have ge : G'.get? e = none := g2 e (by simp)
    have old : ∀ b o, hp.get? b = some o → G'.get? b = some o := fun b o q => (gk b (Nat.ne_of_lt (Nat.lt_of_lt_of_le (Heap.lt_size q) M.new))).trans (M.keep b o q)
    have ob : ObjOk X.prog X.w (upd H1 d (.xd [(n, v)])) G' d (.xd [(n, v)]) := ⟨_, hns.at (fun o q => (gk d M.dne).trans q), fun f => relO_one rv f⟩
    have J : Inv X pins σ (upd H1 d (.xd [(n, v)])) ⟨G', gs, dr, tk', os⟩ := I1.laid (t' := tk') old M.dbig ob
    refine ⟨e, oe, fv, ⟨G', gs, dr, tk', os⟩, _, .ref (He.ga X.K c), some d, rfl, J, fun b o q => ?_, ge, hoe, ⟨hc, hd⟩, hdat, h1, ?_, rfl, I1.bare, raises_own XT.xc.exC XT.xc.tyC, q1 d (I1.hok.fresh M.dbig)⟩
    · by_cases hb : b = e
      · have q' : G'.get? b = some o := q
        rw [hb, ge] at q'; cases q'
      · exact (gk b hb).symm.trans q
    · rw [upd_ne (Ne.symm M.dne)]
      exact I1.hok.fresh M.new
/-- raise C(e) -/
theorem ds_raise (hc : X.calm = true) (T : XOk X.prog X.K X.mg x c n) (hr : Room k X.A) (tk : Takes X W) (ha : PA X [a] (tA X.K W g)) (hg : Gl X x) (hdb : (x == ("__debug__" : Str)) = false := by decide)
    (he : starEach (a :: []) X.env = (false, eval a X.env) :: starEach [] X.env := by rfl) (hpl : (backTo pos (starEach [] X.env)).any (·.1) = false := by rfl) :
    PS X (.Raise (some (.Call (.Name x p) [a] [] pos)) none pos2) (tS X.K W (dRaise c n g)) := by
  refine (ps_raise hc tk (pmk_x T hr ha hg hdb he hpl)).to fun E σ H h => ?_
  obtain ⟨Z, φ, η, st, rs, sl, af⟩ := h
  refine ⟨Z, φ, η, st, rs, sl, af.bind.mono fun a Z' φ' H' t g' rs' vs r => ?_⟩
  split at g'
  · rename_i q st' e1
    obtain ⟨Z2, f2, rs2, q2⟩ := toPs_ok rs' e1 r
    rw [Reps] at q2
    obtain ⟨v, ws, rfl, h1, h2⟩ := q2
    rw [Reps] at h2
    subst h2
    refine ⟨v, rfl, fun d hd => ?_⟩
    obtain ⟨rs3, s3⟩ := rs2.more (o := .xd [(n, v)]) hd
    exact g' σ (upd H' d (.xd [(n, v)])) Z2 φ' (f2.step.trans s3) rs3 (((sl.mono t).mono f2.step).mono s3) d [(n, v)] upd_same (by rw [RepF]; exact ⟨v, [], rfl, h1, by rw [RepF]⟩)
  · exact g'.elim
end
end M
end
section
set_option Elab.async false
set_option linter.all false
set_option maxRecDepth 100000
set_option maxHeartbeats 0
namespace M
open PySem L2
/-- the exception that the suite holds: at a, of the class c, with the fields fs; slot i is its name's -/
structure XF (K : PySem.W.Frag) (a : Addr) (cls : Value) (d : Option Addr) (i : Nat) (c : Str) (fs : Option (List (Str × P))) (Z : Hp) (σ : St) : Prop where
  sl : σ[i]? = some (some (.ref a))
  cl : cls = .ref (He.ga K c)
  fl : match fs with
    | none => True
    | some l => ∃ dx gs, d = some dx ∧ Z dx = some (.xd gs) ∧ RepF K Z l gs
  dd : d = none ∨ ∃ dx gs, d = some dx ∧ Z dx = some (.xd gs)
section
variable {K : PySem.W.Frag} {a : Addr} {cls : Value} {d : Option Addr} {i : Nat} {c : Str} {fs : Option (List (Str × P))} {Z Z' : Hp} {σ : St}
theorem XF.mono (h : XF K a cls d i c fs Z σ) (e : Same Z Z') : XF K a cls d i c fs Z' σ := by
  refine ⟨h.sl, h.cl, ?_, ?_⟩
  · cases fs with
    | none => trivial
    | some l =>
      obtain ⟨dx, gs, h1, h2, h3⟩ := h.fl
      exact ⟨dx, gs, h1, e _ _ h2, RepF.mono e _ _ h3⟩
  · rcases h.dd with h | ⟨dx, gs, h1, h2⟩
    · exact .inl h
    · exact .inr ⟨dx, gs, h1, e _ _ h2⟩
end
/-- an exception's dict is frozen -/
theorem RS.freezeX {K : PySem.W.Frag} {Z H : Hp} {φ : List Addr} {st : Sr} {dx : Addr} {gs : List (Str × V)} (h : RS K Z φ st H) (hd : H dx = some (.xd gs)) : ∃ Z', Same Z Z' ∧ Z' dx = some (.xd gs) ∧ RS K Z' φ st H ∧ Step Z φ H Z' φ H := by
  have ou : ∀ b o, H b = some o → Dat o → b ≠ dx := fun b o e D z => by
    rw [z, hd] at e; cases e; exact D.1 (.inr ⟨gs, rfl⟩)
  have sz : Same Z (upd Z dx (.xd gs)) := fun b o e => by
    by_cases q : b = dx
    · subst q; have := h.same _ _ e; rw [hd] at this; cases this; exact upd_same
    · rw [upd_ne q]; exact e
  refine ⟨upd Z dx (.xd gs), sz, upd_same, ⟨fun b o e => ?_, h.len, h.nd, fun j b c hj hc => ?_, h.tb, fun b ps z => ?_⟩, ⟨sz, ⟨[], by simp, by simp⟩, fun b o e _ _ => e, fun b hb => ?_, fun b hb => hb, fun _ _ _ e => e⟩⟩
  · by_cases q : b = dx
    · subst q; rw [upd_same] at e; cases e; exact hd
    · rw [upd_ne q] at e; exact h.same b o e
  · have rc := h.cells j b c hj hc
    obtain ⟨o, ho, hD⟩ := rc.at2
    have nb := ou b o ho hD
    exact rc.keep sz ⟨[], by simp⟩ (fun q => by rw [upd_ne nb]; exact rc.free q) fun u hu _ => hu
  · by_cases q : b = dx
    · subst q; rw [upd_same] at z; cases z
    · rw [upd_ne q] at z; exact h.zd b ps z
  · by_cases q : b = dx
    · subst q; exact .inr (.inl fun o ho => by rw [hd] at ho; cases ho; exact .inr ⟨gs, rfl⟩)
    · rw [upd_ne q] at hb; exact .inl hb
section
variable (K : PySem.W.Frag) (W : WX) (a : Addr) (cls : Value) (d : Option Addr) (i : Nat) (c : Str) (fs : Option (List (Str × P)))
def Rd4X {α : Type} (f : Et → Sr → R α) (σ : St) (H : Hp) (G : α → Hp → List Addr → Hp → Prop) : Prop := ∃ Z φ η st, RS K Z φ st H ∧ Slots K Z φ η σ ∧ XF K a cls d i c fs Z σ ∧ Af K W Z φ H (f η st) G
def tEX (f : DE) : TE := fun σ H Q => Rd4X K W a cls d i c fs f σ H (GE K Q)
def tAX (f : DA) : TA := fun σ H Q => Rd4X K W a cls d i c fs f σ H (GA K Q)
def GSX (E : Ends) : (Fl × Et × Sr) → Hp → List Addr → Hp → Prop := fun r Z' φ' H' => RS K Z' φ' r.2.2 H' → match r.1 with
  | .nx => ∀ σ', Slots K Z' φ' r.2.1 σ' → XF K a cls d i c fs Z' σ' → E.nx σ' H'
  | .bk => ∀ σ', Slots K Z' φ' r.2.1 σ' → E.bk σ' H'
  | .ct => ∀ σ', Slots K Z' φ' r.2.1 σ' → E.ct σ' H'
  | .rt x => ∀ v, RepD K Z' φ' x v → E.rt v H'
def tSX (f : DS) : TS := fun E σ H => Rd4X K W a cls d i c fs f σ H (GSX K a cls d i c fs E)
end
section
variable {X : Cx} {W : WX} {a : Addr} {cls : Value} {d : Option Addr} {i : Nat} {c : Str} {fs : Option (List (Str × P))} {e : Expr} {es : List Expr} {f : DE} {g : DA} {s1 s2 : DS} {st : Stmt} {rest : List Stmt} {pos : Pos}
theorem dex_of (h : PE X e (tE X.K W f)) : PE X e (tEX X.K W a cls d i c fs f) := h.to fun σ H Q ⟨Z, φ, η, st, rs, sl, _, af⟩ => ⟨Z, φ, η, st, rs, sl, af⟩
theorem dax_nil : PA X [] (tAX X.K W a cls d i c fs dNil) := pa_nil.to fun σ H Q ⟨Z, φ, η, st, rs, sl, _, af⟩ => af _ _ _ .refl rs [] rfl
theorem dax_cons (ha : PE X e (tEX X.K W a cls d i c fs f)) (hr : PA X es (tAX X.K W a cls d i c fs g)) (hs : starEach (e :: es) X.env = (false, eval e X.env) :: starEach es X.env := by rfl) : PA X (e :: es) (tAX X.K W a cls d i c fs (dCons f g)) := by
  refine (pa_cons ha hr hs).to fun σ H Q h => ?_
  obtain ⟨Z, φ, η, st, rs, sl, xf, af⟩ := h
  refine ⟨Z, φ, η, st, rs, sl, xf, af.bind.mono fun a Z' φ' H' t g' rs' v r => ?_⟩
  refine ⟨Z', φ', η, a.2, rs', sl.mono t, xf.mono t.hz, g'.bind.mono fun b Z2 φ2 H2 t2 g2 rs2 us r2 => ?_⟩
  exact g2 _ _ _ .refl rs2 _ ⟨v, us, rfl, r.mono t2.hz t2.app, r2⟩
theorem dex_tup {x1} (h : PA X es (tAX X.K W a cls d i c fs g)) : PE X (.Tuple es x1 pos) (tEX X.K W a cls d i c fs (dAp tupO g)) := by
  refine (pe_tup h).to fun σ H Q h => ?_
  obtain ⟨Z, φ, η, st, rs, sl, xf, af⟩ := h
  refine ⟨Z, φ, η, st, rs, sl, xf, af.bind.mono fun a Z' φ' H' t g' rs' vs r => ?_⟩
  unfold tupO at g'
  split at g'
  · rename_i ps st' e
    split at g'
    · rename_i hz
      obtain ⟨Z2, f2, rs2, q2⟩ := toPs_ok rs' e r
      refine ⟨by rw [← q2.length, ← szL_eq]; exact hz, fun p hp => ?_⟩
      exact (g'.later f2.step).newZ rs2 hp fun sz => by rw [Rep]; exact ⟨p, vs, rfl, .inl (.inl upd_same), q2.mono sz⟩
    · exact g'.elim
  · exact g'.elim
theorem dsx_set {j : Nat} {y : Str} {pos' : Pos} (hN : X.N.Nodup) (he : PE X e (tEX X.K W a cls d i c fs f)) (hij : j ≠ i := by decide) (hi : X.N[j]? = some y := by rfl) (hx : Loc X.env.scope y := by first | exact Or.inl rfl | exact Or.inr rfl) (hs : swapsWith e (some (.Name y pos')) pos.line X.env = pure false := by rfl) (hf : X.fn y = true ∨ X.env.scope.names.lookup y = some .local := by first | exact .inl rfl | exact .inr rfl | assumption) :
    PS X (.Assign [.Name y pos'] e pos) (tSX X.K W a cls d i c fs (dAsg f (gNm j))) := by
  refine (ps_set (i := j) hN hi hx he hs hf).to fun E σ H hh => ?_
  obtain ⟨Z, φ, η, st, rs, sl, xf, af⟩ := hh
  refine ⟨Z, φ, η, st, rs, sl, xf, af.bind.mono fun a Z' φ' H' t g' rs' v r => g' _ _ _ .refl rs' _ ((sl.mono t).set r) ?_⟩
  have x2 := xf.mono t.hz
  exact ⟨by rw [List.getElem?_set_ne hij]; exact x2.sl, x2.cl, x2.fl, x2.dd⟩
theorem dsx_one (h1 : PS X st (tSX X.K W a cls d i c fs s1)) : PSs X [st] (tSX X.K W a cls d i c fs s1) := pss_one h1
end
structure XAt (K : PySem.W.Frag) (C : Addr) : Prop where
  ga : PySem.W.findIn K (.ref C) "__getattribute__" = some (some (.builtin "BaseException.__getattribute__"))
  gg : PySem.W.findIn K (.ref C) "__getattr__" = some none
  exC : PySem.W.subIn K (.ref C) (.type "BaseException") = some true
  hdC : PySem.W.hasDictIn K C = true
  cla : PySem.W.findIn K (.ref C) "__class__" = some (some (.builtin "object.__class__"))
  top : PySem.W.mroIn K C (.type "object") = some true
structure XGl (K : PySem.W.Frag) : Prop where
  hn : PySem.W.specialIn K (.builtin "object.__class__") "__get__" = some (some (.builtin "getset_descriptor.__get__"))
  ht : PySem.W.takesIn K (.builtin "object.__class__") = some true
def dXf (cs : List Str) (f c : Str) (fs : Option (List (Str × P))) : DE := fun η st => if cs.contains c = true then match fs with
    | some l => match l.lookup f with
      | some p => .ok (.fz p, st)
      | none => .stuck
    | none => .stuck
  else .stuck
def dXi (tab : List (Str × Bool)) (c : Str) : DE := fun η st => match look1 c tab with
  | some b => .ok (.fz (.bl b), st)
  | none => .stuck
theorem RepF.look {K : PySem.W.Frag} {Z : Hp} {f : Str} {p : P} : ∀ {l : List (Str × P)} {gs : List (Str × V)}, RepF K Z l gs → l.lookup f = some p → ∃ v, gs.lookup f = some v ∧ Rep K Z p v
  | [], gs, h, e => by cases e
  | (k, q) :: r, gs, h, e => by
    rw [RepF] at h
    obtain ⟨v, ws, rfl, h1, h2⟩ := h
    rw [List.lookup_cons] at e ⊢
    cases z : f == k with
    | true => rw [z] at e; cases e; exact ⟨v, rfl, h1⟩
    | false => rw [z] at e; exact RepF.look h2 e
section
variable {X : Cx} {W : WX} {a : Addr} {cls : Value} {d : Option Addr} {i : Nat} {c : Str} {fs : Option (List (Str × P))} {oe : Obj} {pn : List (Addr × Obj)} {n f : Str} {pos p1 p2 p : Pos}
theorem dex_fld {cs : List Str} (hT : ∀ c, cs.contains c = true → XAt X.K (He.ga X.K c) ∧ PySem.W.findIn X.K (.ref (He.ga X.K c)) f = some none) (hz : Zc cls d oe) (hf : ∃ vs, oe.data = .fields vs) (hN : X.N[i]? = some n := by rfl) (hv : Vis X.env.scope n := by first | exact Or.inl rfl | exact Or.inr (Or.inl rfl))
    (hd : (n == ("__debug__" : Str)) = false := by decide) (hcd : (n == ("__classdict__" : Str)) = false := by decide) (hb : attributeBase (.Name n p1) f X.env (eval (.Name n p1) X.env) = eval (.Name n p1) X.env := by rfl) :
    PE (X.suite a ((a, oe) :: pn)) (.Attribute (.Name n p1) f pos) (tEX X.K W a cls d i c fs (dXf cs f c fs)) := by
  refine ⟨fun pins s σ H Q I h => ?_⟩
  obtain ⟨Z, φ, η, st, rs, sl, xf, af⟩ := h
  unfold dXf at af
  split at af
  · rename_i hc
    obtain ⟨T, noN⟩ := hT c hc
    split at af
    · rename_i l
      split at af
      · rename_i p0 el
        refine attr_of hb (thn ((pe_var (X := X.suite a ((a, oe) :: pn)) (pos := p1) (i := i) hN hv hd hcd).run pins s σ H (fun v H1 => v = .ref a ∧ H1 = H) I ⟨.ref a, xf.sl, rfl, rfl⟩) fun u s1 ⟨v, H1, I1, r1, e1, e2⟩ => ?_)
        subst e1 e2
        obtain rfl : u = Value.ref a := r1
        obtain ⟨dx, gs, rfl, hZ, hR⟩ := xf.fl
        have ea : H1 dx = some (.xd gs) := rs.same _ _ hZ
        have ecl := xf.cl
        subst ecl
        obtain ⟨ha, _⟩ := I1.pin (a, oe) (List.mem_append_left _ List.mem_cons_self)
        obtain ⟨vs, hd⟩ := hf
        obtain ⟨mA, hns, hr⟩ : ObjOk X.prog X.w H1 s1.heap dx (.xd gs) := I1.hok dx _ ea
        obtain ⟨od, ho, hl⟩ := lookIn_ns hns
        obtain ⟨v, hv1, hv2⟩ := hR.look el
        obtain ⟨u, hu, ru⟩ := RelO.some_of (v := v) (o := mA f) (by rw [← hv1]; exact hr f)
        have J : PySem.W.InstAt s1.heap a oe (He.ga X.K c) (some od) := ⟨ha, hz.1, by unfold PySem.W.notCls; rw [hd] <;> rfl, by rw [hz.2]; exact ho⟩
        exact HandSPX.exc_get I1.kIn J T.ga T.gg T.exC (PySem.W.findObj_own T.hdC noN rfl (by rw [hl, hu])) (handed_of ru) ⟨v, H1, I1.tok _, ru, af.here rs hv2⟩
      · exact af.elim
    · exact af.elim
  · exact af.elim
theorem dex_isi {tab : List (Str × Bool)} {T : Str} {cv : Value} {cV : V} (hG : XGl X.K) (hT : ∀ c b, (c, b) ∈ tab → XAt X.K (He.ga X.K c) ∧ PySem.W.kitOne X.K (.ref (He.ga X.K c)) cv = some b) (hz : Zc cls d oe) (hf : ∃ vs, oe.data = .fields vs) (hgi : Gl X "isinstance") (hmi : X.mg "isinstance" = none)
    (hcv : PE (X.suite a ((a, oe) :: pn)) (.Name T p2) (tC cV)) (rcv : ∀ u, RelV cV u → u = cv) (hN : X.N[i]? = some n := by rfl) (hv : Vis X.env.scope n := by first | exact Or.inl rfl | exact Or.inr (Or.inl rfl)) (hd : (n == ("__debug__" : Str)) = false := by decide) (hcd : (n == ("__classdict__" : Str)) = false := by decide)
    (hs1 : starEach [.Name n p1, .Name T p2] (X.suite a ((a, oe) :: pn)).env = (false, eval (.Name n p1) (X.suite a ((a, oe) :: pn)).env) :: starEach [.Name T p2] (X.suite a ((a, oe) :: pn)).env := by rfl) (hs2 : starEach [.Name T p2] (X.suite a ((a, oe) :: pn)).env = (false, eval (.Name T p2) (X.suite a ((a, oe) :: pn)).env) :: starEach [] (X.suite a ((a, oe) :: pn)).env := by rfl) :
    PE (X.suite a ((a, oe) :: pn)) (.Call (.Name "isinstance" p) [.Name n p1, .Name T p2] [] pos) (tEX X.K W a cls d i c fs (dXi tab c)) := by
  have hc : CallR (X.suite a ((a, oe) :: pn)) (.builtin "isinstance") (fun xs H Q => xs = [.ref a, cV] ∧ ∃ Z st φ η σ, RS X.K Z φ st H ∧ XF X.K a cls d i c fs Z σ ∧ Af X.K W Z φ H (dXi tab c η st) (GE X.K Q)) := by
    intro pins s σ0 H xs us Q I r ⟨ex, Z, st, φ, η, σ, rs, xf, af⟩
    subst ex
    cases r with
    | cons rx rr =>
      cases rr with
      | cons rt rr =>
        cases rr
        cases rx
        have ec := rcv _ rt
        subst ec
        unfold dXi at af
        split at af
        · rename_i b eb
          obtain ⟨T, hk⟩ := hT c b (look1_mem eb)
          obtain ⟨hget, _⟩ := I.pin (a, oe) (List.mem_append.mpr (.inl List.mem_cons_self))
          obtain ⟨vs, hv⟩ := hf
          have ecl := xf.cl
          have J : ∃ od, PySem.W.InstAt s.heap a oe (He.ga X.K c) od := by
            obtain ⟨oc, odd, oda, osl⟩ := oe
            obtain ⟨h1, h2⟩ := hz
            dsimp only at h1 h2 hv
            subst h1 hv
            rcases xf.dd with e | ⟨dx, gs, e, hZ⟩
            · rw [e] at h2; subst h2; exact ⟨none, hget, ecl, rfl, trivial⟩
            · rw [e] at h2; subst h2
              obtain ⟨mA, hns, hr⟩ : ObjOk X.prog X.w H s.heap dx (.xd gs) := I.hok dx _ (rs.same _ _ hZ)
              obtain ⟨od, ho, hl⟩ := lookIn_ns hns
              exact ⟨some od, hget, ecl, rfl, ho⟩
          obtain ⟨od, J⟩ := J
          have hcl : (PySem.W.clsIn X.K (He.ga X.K c)).isSome = true := by
            obtain ⟨cd, hc, _⟩ := PySem.W.any_some T.hdC
            rw [hc]; rfl
          exact PySem.W.kia_one (PySem.W.kitx_exc (ox := oe) (od := od) hcl T.ga T.gg T.exC T.cla hG.hn hG.ht T.top) I.kIn J hk (fun z => nomatch z) fun tk => ⟨.bl b, H, I.kept (t' := tk) fun _ _ z => z, rfl, af.here rs rep_bl⟩
        · exact af.elim
  have ha : PA (X.suite a ((a, oe) :: pn)) [.Name n p1, .Name T p2] (tCons (tVar i) (tCons (tC cV) tNil)) := pa_cons (pe_var (i := i) hN hv hd hcd) (pa_cons hcv pa_nil hs2) hs1
  refine (pe_callB (X := X.suite a ((a, oe) :: pn)) hc hgi hmi (by decide +kernel) ha (by decide) (by decide) hs1 (by rw [hs2]; rfl)).to fun σ H Q ⟨Z, φ, η, st, rs, sl, xf, af⟩ => ?_
  exact ⟨.ref a, xf.sl, rfl, Z, st, φ, η, σ, rs, xf, af⟩
end
theorem Slots.unset {K : PySem.W.Frag} {Z : Hp} {φ : List Addr} {η : Et} {σ : St} {i : Nat} {o : Option V} (h : Slots K Z φ η σ) : Slots K Z φ (η.set i none) (σ.set i o) := by
  refine ⟨by simp [h.len], fun j e hj => ?_⟩
  by_cases hi : i = j
  · subst hi
    by_cases hl : i < η.length
    · rw [List.getElem?_set_self hl] at hj; cases hj
    · rw [List.getElem?_eq_none (by simpa using hl)] at hj; cases hj
  · rw [List.getElem?_set_ne hi] at hj
    rw [List.getElem?_set_ne hi]
    exact h.at_ j e hj
/-- what the suite gives back -/
def fromSuite (i : Nat) : R (Fl × Et × Sr) → R (Fl × Et × Sr)
  | .ok (fl, η, st) => .ok (fl, η.set i none, st)
  | _ => .stuck
end M
end
section
set_option Elab.async false
set_option linter.all false
set_option maxRecDepth 100000
set_option maxHeartbeats 0
namespace M
open PySem L2
def tyP : P → Option String
  | .non => some "NoneType"
  | .bl _ => some "bool"
  | .int _ => some "int"
  | .str _ => some "str"
  | .tup _ => some "tuple"
  | .lst _ => some "list"
  | .rol _ => some "list"
  | .dct _ => some "dict"
  | .obj _ _ => none
  | .cls _ => none
  | .dn _ => none
def isiO (T : String) (d : D) (st : Sr) : R (D × Sr) := match (peek st d).bind tyP with
  | some t => match kitB t T with
    | some b => .ok (.fz (.bl b), st)
    | none => .stuck
  | none => .stuck
theorem sqT_ty {K : PySem.W.Frag} {H : Hp} {a : Addr} {xs : List V} (h : SqT K H a xs) : TyX K H (.ref a) (.type "tuple") := by
  rcases h with (h | ⟨o, h⟩) | ⟨o, its, n, e1, e2, _⟩
  · exact .base (.tup h)
  · exact .fTuple h
  · exact .kTuple e1 e2
theorem sqL_ty {K : PySem.W.Frag} {H : Hp} {a : Addr} {xs : List V} (h : SqL K H a xs) : TyX K H (.ref a) (.type "list") := by
  rcases h with (h | ⟨o, h⟩) | ⟨o, its, n, e1, e2, _⟩
  · exact .base (.lst h)
  · exact .base (.frz h)
  · exact .kList e1 e2
theorem pk_ty {K : PySem.W.Frag} {Z H : Hp} {p : P} {v : V} {t : String} (h : PkR K Z H p v) (e : tyP p = some t) : TyX K H v (.type t) := by
  cases p with
  | non => cases h; cases e; exact .base .non
  | bl b => cases h; cases e; exact .base (.bl b)
  | int b => cases h; cases e; exact .base (.int b)
  | str b => cases h; cases e; exact .base (.str b)
  | tup xs => obtain ⟨a, vs, rfl, h2, h3⟩ := h; cases e; exact sqT_ty h2
  | lst xs => obtain ⟨a, vs, rfl, h2, h3⟩ := h; cases e; exact sqL_ty (SqL.of h2)
  | rol xs => obtain ⟨a, vs, rfl, h2, h3⟩ := h; cases e; exact sqL_ty h2
  | dct xs => obtain ⟨a, vs, rfl, h2, h3⟩ := h; cases e; exact .base (.dK h2)
  | obj c xs => cases e
  | cls c => cases e
  | dn c => cases e
section
variable {X : Cx} {W : WX} {a b e o i value : Expr} {es : List Expr} {f g h : DE} {fs : DA} {pos pos' p p1 p2 : Pos}
/-- a built-in class as a value -/
theorem pe_ty {T : String} {x : Str} (hg : Gl X x) (hm : X.mg x = none) (hv : bootBuiltins x = some (.type T)) (hn : x ≠ "__name__" := by decide) (hd : (x == ("__debug__" : Str)) = false := by decide) : PE X (.Name x pos) (tC (.ty T)) :=
  ⟨fun _ _ _ H _ I h => ld_blt I hg hm hv ⟨.ty T, H, I, rfl, h⟩ hn hd⟩
theorem de_isi {T : String} {x : Str} (hgi : Gl X "isinstance") (hmi : X.mg "isinstance" = none) (hg : Gl X x) (hm : X.mg x = none) (hv : bootBuiltins x = some (.type T)) (ha : PE X e (tE X.K W f)) (hn : x ≠ "__name__" := by decide) (hd : (x == ("__debug__" : Str)) = false := by decide)
    (hs1 : starEach [e, .Name x p2] X.env = (false, eval e X.env) :: starEach [.Name x p2] X.env := by rfl) (hs2 : starEach [.Name x p2] X.env = (false, eval (.Name x p2) X.env) :: starEach [] X.env := by rfl) :
    PE X (.Call (.Name "isinstance" p) [e, .Name x p2] [] pos) (tE X.K W (dUn (isiO T) f)) := by
  refine (pe_callB call_isi hgi hmi (by decide +kernel) (pa_cons ha (pa_cons (pe_ty hg hm hv hn hd) pa_nil hs2) hs1) (by decide) (by decide) hs1 (by rw [hs2]; rfl)).to fun σ H Q hh => ?_
  obtain ⟨Z, φ, η, st, rs, sl, af⟩ := hh
  refine ⟨Z, φ, η, st, rs, sl, af.bind.mono fun a Z' φ' H' t g' rs' v r => ?_⟩
  unfold isiO at g'
  split at g'
  · rename_i ty e1
    split at g'
    · rename_i bb e2
      obtain ⟨q, e3, e4⟩ := Option.bind_eq_some_iff.mp e1
      exact ⟨v, .ty T, .type ty, .type T, bb, rfl, .ty T, pk_ty (peek_pk rs' e3 r) e4, kit_ty e2, g'.here rs' rep_bl⟩
    · exact g'.elim
  · exact g'.elim
def notBO (d e : D) (st : Sr) : R (D × Sr) := match d, e with
  | .fz (.bl x), .fz (.bl y) => .ok (.fz (.bl (!decide (x = y))), st)
  | _, _ => .stuck
theorem o_notB : OpR X (compareOp .IsNot) (rM X.K W notBO) := by
  intro pins s σ H x y v u Q I rx ry ⟨d, e, Z, φ, st, rs, rd, re, af⟩
  unfold notBO at af
  split at af
  · obtain rfl := fz_bl rd
    obtain rfl := fz_bl re
    exact op_notBl pins s σ H _ _ v u Q I rx ry ⟨_, _, rfl, rfl, af.here rs rep_bl⟩
  · exact af.elim
def flatP : P → Bool
  | .non => true
  | .bl _ => true
  | .int _ => true
  | .str _ => true
  | _ => false
def vP : P → V
  | .non => .non
  | .bl b => .bl b
  | .int i => .int i
  | .str s => .str s
  | _ => .non
def keyP : P → Option Key
  | .int i => some (.inl i)
  | .str s => some (.inr s)
  | _ => none
theorem keyP_rep {K : PySem.W.Frag} {Z : Hp} {p : P} {v : V} {k : Key} (h : Rep K Z p v) (e : keyP p = some k) : v = kV k := by
  cases p with
  | int b => cases e; rw [Rep] at h; exact h
  | str b => cases e; rw [Rep] at h; exact h
  | _ => cases e
def hasK (k : Key) : List (Key × P) → Bool
  | [] => false
  | (j, _) :: r => decide (j = k) || hasK k r
def getK (k : Key) : List (Key × P) → Option P
  | [] => none
  | (j, p) :: r => if j = k then some p else getK k r
def putP (k : Key) (q : P) : List (Key × P) → List (Key × P)
  | [] => [(k, q)]
  | (j, p) :: r => if j = k then (j, q) :: r else (j, p) :: putP k q r
theorem getK_ok {K : PySem.W.Frag} {Z : Hp} {k : Key} {q : P} : ∀ {kvs : List (Key × P)} {kws : List (Key × V)}, RepK K Z kvs kws → getK k kvs = some q → ∃ v, valV kws k = some v ∧ Rep K Z q v
  | [], kws, h, e => by cases e
  | (j, p) :: r, kws, h, e => by
    rw [RepK] at h
    obtain ⟨v, ws, rfl, h1, h2⟩ := h
    unfold getK at e
    split at e
    · rename_i ej; cases e; exact ⟨v, valV_pos (p := (j, v)) ej, h1⟩
    · rename_i ej
      have : valV ((j, v) :: ws) k = valV ws k := by unfold valV; rw [List.find?_cons]; simp [ej]
      rw [this]; exact getK_ok h2 e
/-- the keys are apart -/
def ndK : List (Key × P) → Bool
  | [] => true
  | (j, _) :: r => !hasK j r && ndK r
theorem hasK_any {K : PySem.W.Frag} {Z : Hp} {k : Key} {kvs : List (Key × P)} {kws : List (Key × V)} (h : RepK K Z kvs kws) : (kws.any fun kv => decide (kv.1 = k)) = hasK k kvs := by
  induction kvs generalizing kws with
  | nil => rw [RepK] at h; subst h; rfl
  | cons a r ih =>
    obtain ⟨j, p⟩ := a
    rw [RepK] at h
    obtain ⟨v, ws, rfl, h1, h2⟩ := h
    unfold hasK
    rw [List.any_cons, ih h2]
theorem noK_map {K : PySem.W.Frag} {Z : Hp} {k : Key} {w : V} {kvs : List (Key × P)} {kws : List (Key × V)} (h : RepK K Z kvs kws) (e : hasK k kvs = false) : kws.map (fun kv => if kv.1 = k then (kv.1, w) else kv) = kws := by
  induction kvs generalizing kws with
  | nil => rw [RepK] at h; subst h; rfl
  | cons a r ih =>
    obtain ⟨j, p⟩ := a
    rw [RepK] at h
    obtain ⟨v, ws, rfl, h1, h2⟩ := h
    unfold hasK at e
    rw [Bool.or_eq_false_iff, decide_eq_false_iff_not] at e
    rw [List.map_cons, ih h2 e.2, if_neg e.1]
theorem putP_ok {K : PySem.W.Frag} {Z : Hp} {k : Key} {q : P} {w : V} (hq : Rep K Z q w) : ∀ {kvs : List (Key × P)} {kws : List (Key × V)}, ndK kvs = true → RepK K Z kvs kws → RepK K Z (putP k q kvs) (putK kws k w)
  | [], kws, _, h => by rw [RepK] at h; subst h; show RepK K Z [(k, q)] [(k, w)]; rw [RepK]; exact ⟨w, [], rfl, hq, by rw [RepK]⟩
  | (j, p) :: r, kws, hn, h => by
    have h0 := h
    rw [RepK] at h
    obtain ⟨v, ws, rfl, h1, h2⟩ := h
    unfold ndK at hn
    rw [Bool.and_eq_true, Bool.not_eq_true'] at hn
    unfold putP
    unfold putK
    rw [hasK_any h0]
    unfold hasK
    by_cases e : j = k
    · subst e
      rw [if_pos rfl]
      simp only [decide_true, Bool.true_or, if_true, List.map_cons]
      rw [noK_map h2 hn.1, RepK]
      exact ⟨w, ws, rfl, hq, h2⟩
    · rw [if_neg e]
      have ih := putP_ok (k := k) hq hn.2 h2
      unfold putK at ih
      rw [hasK_any h2] at ih
      have ed : decide (j = k) = false := decide_eq_false e
      rw [ed, Bool.false_or]
      cases hk : hasK k r with
      | true =>
        rw [hk] at ih
        simp only [if_true, List.map_cons, if_neg e] at ih ⊢
        rw [RepK]; exact ⟨v, _, rfl, h1, ih⟩
      | false =>
        rw [hk] at ih
        simp only [Bool.false_eq_true, if_false] at ih ⊢
        rw [RepK]; exact ⟨v, _, rfl, h1, ih⟩
def inB (p q : P) : Option Bool := match q with
  | .lst xs => if flatP p = true ∧ xs.all flatP = true then some (inV (vP p) (xs.map vP)) else if shP p = true ∧ shP (.lst xs) = true then some (xs.any fun z => eqP z p) else none
  | .rol xs => if flatP p = true ∧ xs.all flatP = true then some (inV (vP p) (xs.map vP)) else none
  | .tup xs => if flatP p = true ∧ xs.all flatP = true then some (inV (vP p) (xs.map vP)) else none
  | .dct kvs => match keyP p with
    | some k => some (hasK k kvs)
    | none => none
  | _ => none
theorem PkR.rp {K : PySem.W.Frag} {Z H : Hp} {p : P} {v : V} (s : Same Z H) (h : PkR K Z H p v) : Rep K H p v := h.rep s
end
end M
end
section
set_option Elab.async false
set_option linter.all false
set_option maxRecDepth 100000
set_option maxHeartbeats 0
namespace M
open PySem L2
def dNewD : DE := fun _ st => .ok (.cell st.length, st ++ [.dct []])
/-- o[i] = value: the value, the dict, the key -/
def dPut (fv fo fi : DE) : DS := fun η st => (fv η st).bind fun v => (fo η v.2).bind fun o => (fi η o.2).bind fun i => match o.1 with
  | .cell n => match i.2[n]?, (peek i.2 i.1).bind keyP, toP i.2 v.1 with
    | some (.dct kvs), some k, some (q, st') => match st'[n]? with
      | some (.dct kvs') => if ndK kvs' = true ∧ kvs'.length < szL then .ok (.nx, η, st'.set n (.dct (putP k q kvs'))) else .stuck
      | _ => .stuck
    | _, _, _ => .stuck
  | _ => .stuck
def dIxO (d e : D) (st : Sr) : R (D × Sr) := match peek st d, peek st e with
  | some (.dct kvs), some p => match (keyP p).bind fun k => getK k kvs with
    | some q => .ok (.fz q, st)
    | none => .stuck
  | _, _ => .stuck
section
variable {X : Cx} {W : WX} {a b e o i value : Expr} {es : List Expr} {f g h : DE} {fs : DA} {pos pos' p p1 p2 : Pos}
theorem de_newD : PE X (.Dict [] [] pos) (tE X.K W dNewD) := pe_dnewK.to fun σ H Q ⟨Z, φ, η, st, rs, sl, af⟩ => fun q hq => af.cell rs hq fun hz => ⟨hz, [], upd_same, by rw [RepK]⟩
theorem ds_dput (hu : X.A.units + 1 < cLine) (hv : PE X value (tE X.K W f)) (ho : PE X o (tE X.K W g)) (hi : PE X i (tE X.K W h)) (hs : swapsWith value (some (.Subscript o i pos')) pos.line X.env = pure false := by rfl) : PS X (.Assign [.Subscript o i pos'] value pos) (tS X.K W (dPut f g h)) := by
  refine (ps_dput hu ho hi hv hs).to fun E σ H hh => ?_
  obtain ⟨Z, φ, η, st, rs, sl, af⟩ := hh
  refine ⟨Z, φ, η, st, rs, sl, af.bind.mono fun a Z' φ' H' t g' rs' v r => ?_⟩
  refine ⟨Z', φ', η, a.2, rs', sl.mono t, g'.bind.mono fun b Z2 φ2 H2 t2 g2 rs2 u r2 => ?_⟩
  refine ⟨Z2, φ2, η, b.2, rs2, (sl.mono t).mono t2, g2.bind.mono fun c Z3 φ3 H3 t3 g3 rs3 w r3 => ?_⟩
  have rv := (r.mono t2.hz t2.app).mono t3.hz t3.app
  have ro := r2.mono t3.hz t3.app
  split at g3
  · rename_i n en
    rw [en] at ro
    split at g3
    · rename_i kvs k q st' e1 e2 e3
      obtain ⟨Z4, f4, rs4, q4⟩ := toP_ok rs3 e3 rv
      have g4 := g3.later f4.step
      obtain ⟨ad, had, rfl⟩ := ro
      split at g4
      · rename_i kvs' e5
        split at g4
        · rename_i hz
          obtain ⟨ct, hct, rc⟩ := rs4.at_ had
          rw [e5] at hct; cases hct
          obtain ⟨hzn, kws, hH, hR⟩ := rc
          obtain ⟨pi, e6, e7⟩ := Option.bind_eq_some_iff.mp e2
          have hk := keyP_rep ((peek_pk rs3 e6 r3).rp rs3.same) e7
          subst hk
          refine ⟨ad, _, rfl, DPut.k hH (by rw [← hR.length, ← szL_eq]; exact hz.2), ?_⟩
          obtain ⟨rs5, t5⟩ := rs4.write (o := .dK (putK kws k v)) (c := .dct (putP k q kvs')) had hzn ⟨hzn, _, upd_same, putP_ok q4 hz.1 hR⟩ (fun _ _ z => by rw [hH] at z; cases z)
          exact g4 _ _ _ t5 rs5 σ (((((sl.mono t).mono t2).mono t3).mono f4.step).mono t5)
        · exact g4.elim
      · exact g4.elim
    · exact g3.elim
  · exact g3.elim
end
end M
end
section
set_option Elab.async false
set_option linter.all false
set_option maxRecDepth 100000
set_option maxHeartbeats 0
namespace M
open PySem L2
inductive Ck where
  | fa (f : He.Fa)
  | mk0 (x : Str)
  | same (c g m : Str)
  | supm (c d m g : Str)
  | opq
  | xcls (c : Str)
  | xini (c f : Str)
  | xat (c : Str)
  | xgl
  | kitO (c t : Str) (b : Bool)
  | kitT (c : Str) (t : String) (b : Bool)
  | tab (p : Str × Option Str)
  | any (f : PySem.W.Frag → Bool)
def refsVEb (l : List Value) : Bool := PySem.HandSPX.refsVE l
def xclsB (K : PySem.W.Frag) (C : Addr) : Bool := (match K.lookup C with
  | some ⟨.type ty, _, .cls cd, sl⟩ => decide (ty = "type") && (match cd.mro, sl.toList with
    | .ref D :: bm, [k0, k1, k2, k3, some (.builtin n), k5] => decide (D = C) && (refsVEb bm && (cd.hasDict && (!cd.hasDel && decide (n = "ValueError.__new__"))))
    | _, _ => false)
  | _ => false) && (PySem.W.keepIn K (.ref C) && (decide (PySem.W.subIn K (.ref C) (.type "BaseException") = some true) && decide (PySem.W.typeIn K (.ref C) = some (.type "type"))))
def Ck.ok (K : PySem.W.Frag) : Ck → Bool
  | .fa f => f.ok K
  | .mk0 x => PySem.W.makesIn K (He.ga K x) && (He.eqO (PySem.W.findIn K (.ref (He.ga K x)) "__init__") (some (some (.builtin "object.__init__"))) && (decide (PySem.W.mroIn K (He.ga K x) (.type "object") = some true) && PySem.W.keepIn K (.ref (He.ga K x))))
  | .same c g m => decide (He.ma K (He.ga K c) m = He.ma K (He.ga K g) m)
  | .supm c d m g => decide (PySem.W.mroIn K (He.ga K c) (.ref (He.ga K d)) = some true) && (He.eqO (PySem.W.ks_superIn K (He.ga K c) (He.ga K d) m) (some (some (.ref (He.ma K (He.ga K g) m)))) && (decide (PySem.W.typeIn K (.ref (He.ma K (He.ga K g) m)) = some (.type "function")) && PySem.W.fnIn K (He.ma K (He.ga K g) m)))
  | .opq => He.eqO (PySem.W.nsIn K cStatics "thirdparty.any") (some none)
  | .xcls c => xclsB K (He.ga K c)
  | .xini c f => He.eqO (PySem.W.findIn K (.ref (He.ga K c)) "__setattr__") (some (some (.builtin "object.__setattr__"))) && (He.eqO (PySem.W.findIn K (.ref (He.ga K c)) f) (some none) && (He.eqO (PySem.W.findIn K (.ref (He.ga K c)) "__init__") (some (some (.ref (He.ma K (He.ga K c) "__init__")))) &&
      (decide (PySem.W.typeIn K (.ref (He.ma K (He.ga K c) "__init__")) = some (.type "function")) && (He.eqO (PySem.W.ks_superIn K (He.ga K c) (He.ga K c) "__init__") (some (some (.builtin "ValueError.__init__"))) && (decide (PySem.W.subIn K (.ref (He.ga K c)) (.type "ValueError") = some true) && decide (PySem.W.mroIn K (He.ga K c) (.ref (He.ga K c)) = some true))))))
  | .xat c => He.eqO (PySem.W.findIn K (.ref (He.ga K c)) "__getattribute__") (some (some (.builtin "BaseException.__getattribute__"))) && (He.eqO (PySem.W.findIn K (.ref (He.ga K c)) "__getattr__") (some none) && (decide (PySem.W.subIn K (.ref (He.ga K c)) (.type "BaseException") = some true) && (PySem.W.hasDictIn K (He.ga K c) &&
      (He.eqO (PySem.W.findIn K (.ref (He.ga K c)) "__class__") (some (some (.builtin "object.__class__"))) && decide (PySem.W.mroIn K (He.ga K c) (.type "object") = some true)))))
  | .xgl => He.eqO (PySem.W.specialIn K (.builtin "object.__class__") "__get__") (some (some (.builtin "getset_descriptor.__get__"))) && decide (PySem.W.takesIn K (.builtin "object.__class__") = some true)
  | .kitO c t b => decide (PySem.W.kitOne K (.ref (He.ga K c)) (.ref (He.ga K t)) = some b)
  | .kitT c t b => decide (PySem.W.kitOne K (.ref (He.ga K c)) (.type t) = some b)
  | .tab p => (match K.lookup (He.fAd K p) with
    | some o => (tabOf K o).isSome
    | none => false)
  | .any f => f K
section
variable {K : PySem.W.Frag}
open He (ba)
theorem same_ok {c g m : Str} (h : (Ck.same c g m).ok K = true) : He.ma K (He.ga K c) m = He.ma K (He.ga K g) m := of_decide_eq_true h
theorem opq_ok (h : Ck.opq.ok K = true) : PySem.W.nsIn K cStatics "thirdparty.any" = some none := He.eqO_ok h
theorem xcls_ok {c : Str} (h : (Ck.xcls c).ok K = true) : XCls K c (He.ga K c) := by
  obtain ⟨c1, c⟩ := ba h
  obtain ⟨c2, c⟩ := ba c
  obtain ⟨c3, c4⟩ := ba c
  refine ⟨?_, c2, of_decide_eq_true c3, of_decide_eq_true c4⟩
  split at c1
  · rename_i ty dd cd sl ho
    obtain ⟨d1, c1⟩ := ba c1
    split at c1
    · rename_i D bm k0 k1 k2 k3 n k5 hm hs
      obtain ⟨f1, f0⟩ := ba c1
      obtain ⟨e2, f0⟩ := ba f0
      obtain ⟨e3, f0⟩ := ba f0
      obtain ⟨e4, f5⟩ := ba f0
      have e1 := of_decide_eq_true f1
      have e5 := of_decide_eq_true f5
      have d2 := of_decide_eq_true d1
      rw [Bool.not_eq_true'] at e4
      clear f1 f5 d1 c1 c
      subst d2 e1 e5
      obtain ⟨nm, bs, mro, ns, qn, hd, sn, sub, ab, col, del⟩ := cd
      dsimp only at hm e3 e4
      subst hm e3 e4
      have hsl : sl = #[k0, k1, k2, k3, some (.builtin "ValueError.__new__"), k5] := by
        obtain ⟨l⟩ := sl
        simp only at hs
        rw [hs]
      subst hsl
      exact ⟨nm, qn, ns, bs, bm, sn, sub, ab, col, dd, k0, k1, k2, k3, k5, ho, e2⟩
    · cases c1
  · cases c1
theorem xat_ok {c : Str} (h : (Ck.xat c).ok K = true) : XAt K (He.ga K c) := by
  obtain ⟨c1, c⟩ := ba h
  obtain ⟨c2, c⟩ := ba c
  obtain ⟨c3, c⟩ := ba c
  obtain ⟨c4, c⟩ := ba c
  obtain ⟨c5, c6⟩ := ba c
  exact ⟨He.eqO_ok c1, He.eqO_ok c2, of_decide_eq_true c3, c4, He.eqO_ok c5, of_decide_eq_true c6⟩
theorem xgl_ok (h : Ck.xgl.ok K = true) : XGl K := by
  obtain ⟨c1, c2⟩ := ba (show (He.eqO (PySem.W.specialIn K (.builtin "object.__class__") "__get__") (some (some (.builtin "getset_descriptor.__get__"))) && decide (PySem.W.takesIn K (.builtin "object.__class__") = some true)) = true from h)
  exact ⟨He.eqO_ok c1, of_decide_eq_true c2⟩
theorem kitO_ok {c t : Str} {b : Bool} (h : (Ck.kitO c t b).ok K = true) : PySem.W.kitOne K (.ref (He.ga K c)) (.ref (He.ga K t)) = some b := of_decide_eq_true h
theorem kitT_ok {c : Str} {t : String} {b : Bool} (h : (Ck.kitT c t b).ok K = true) : PySem.W.kitOne K (.ref (He.ga K c)) (.type t) = some b := of_decide_eq_true h
end
structure DefC where
  cls : Str
  name : Str
  qual : Str
  params : Arguments
  body : List Stmt
  scope : Scope
abbrev FnC : Type := Option (Str × Str × Arguments × FuncBody × Scope × Addr × List Str × Addr)
def DefC.at_ (d : DefC) : Str × Option Str := (d.cls, some d.name)
def fnC (K : PySem.W.Frag) (p : Str × Option Str) : FnC := match K.lookup (He.fAd K p) with
  | some ⟨_, _, .func fd, _⟩ => some (fd.name, fd.qualname, fd.params, fd.body, fd.scope, fd.globals, fd.closure.map (·.1), fd.builtins)
  | _ => none
def DefC.val (d : DefC) : FnC := some (d.name, d.qual, d.params, .stmts d.body, d.scope, mainGlobals, ["__class__"], builtinsNs)
def cellB (K : PySem.W.Frag) (cc D : Addr) : Bool := match K.lookup cc with
  | some ⟨_, _, .cell (some (.ref E)), _⟩ => decide (E = D)
  | _ => false
def fileB (K : PySem.W.Frag) (cd : Value) (file : Str) : Bool := match cd with
  | .ref c => (match K.lookup c with
    | some ⟨_, _, .fields vs, _⟩ => (match (vs[2]? : Option Value) with
      | some (.str f _) => decide (f = file)
      | _ => false)
    | _ => false)
  | _ => false
def noneB : Value → Bool
  | .none => true
  | _ => false
def clB (K : PySem.W.Frag) (D : Addr) : List (Str × Addr) → Bool
  | [(_, cc)] => cellB K cc D
  | _ => false
def DefC.ok (K : PySem.W.Frag) (file : Str) (d : DefC) : Bool := PySem.W.keepIn K (.ref (He.fAd K d.at_)) && (PySem.W.isClsIn K (He.ga K d.cls) && (match K.lookup (He.fAd K d.at_) with
  | some ⟨_, _, .func fd, _⟩ => PySem.W.codeIn K fd.code d.qual && (fileB K fd.code file && (noneB fd.defaults && clB K (He.ga K d.cls) fd.closure))
  | _ => false))
theorem DefC.funC {K : PySem.W.Frag} {P : Program} {mg : Str → Option Value} {d : DefC} {file par : Str} (e : fnC K d.at_ = d.val) (c : d.ok K file = true) (hfile : ((P.main.file : Str) == file) = true) (opq : PySem.W.nsIn K cStatics "thirdparty.any" = some none)
    (top : (P.main.scope.names.lookup ("super" : Str)).isSome = false) (free : mg "super" = none) (hp : ∃ ar, (d.params.posonlyargs ++ d.params.args).head? = some ar ∧ ar.arg = par) :
    ∃ fd cda cc, FunC K P mg d.name d.qual d.params d.body d.scope par (He.ga K d.cls) (He.fAd K d.at_) fd cda cc ∧ ∃ oc od osl, K.lookup (He.fAd K d.at_) = some ⟨oc, od, .func fd, osl⟩ := by
  obtain ⟨kp, c2⟩ := He.ba c
  obtain ⟨hcl, c2⟩ := He.ba c2
  unfold fnC at e
  cases q : K.lookup (He.fAd K d.at_) with
  | none => rw [q] at c2; cases c2
  | some o =>
    obtain ⟨oc, od, dt, osl⟩ := o
    rw [q] at c2 e
    cases dt with
    | func fd =>
      obtain ⟨n1, n2, n3, n4, n5, n6, n7, n8, n9, n10, n11, n12, n13, n14, n15⟩ := fd
      have e2 : (some (n1, n2, n3, n4, n5, n6, n7.map (·.1), n15) : FnC) = some (d.name, d.qual, d.params, FuncBody.stmts d.body, d.scope, mainGlobals, [("__class__" : Str)], builtinsNs) := e
      simp only [Option.some.injEq, Prod.mk.injEq] at e2
      obtain ⟨h1, h2, h3, h4, h5, h6, h7, h8⟩ := e2
      subst h1 h2 h3 h4 h5 h6 h8
      have c3 : (PySem.W.codeIn K n13 d.qual && (fileB K n13 file && (noneB n8 && clB K (He.ga K d.cls) n7))) = true := c2
      obtain ⟨k1, kr⟩ := He.ba c3
      obtain ⟨k2, ks⟩ := He.ba kr
      obtain ⟨k3, k4⟩ := He.ba ks
      clear kr ks c3
      have hn8 : n8 = .none := by
        cases n8 <;> first | rfl | cases k3
      subst hn8
      match n7, k4, h7, q with
      | [(nm, cc)], k4, h7, q =>
        have hnm : nm = "__class__" := (List.cons.inj h7).1
        subst hnm
        have k4 : cellB K cc (He.ga K d.cls) = true := k4
        obtain ⟨cl, cld, csl, hcell⟩ : ∃ cl cld csl, K.lookup cc = some ⟨cl, cld, .cell (some (.ref (He.ga K d.cls))), csl⟩ := by
          unfold cellB at k4
          split at k4
          · rename_i a b E s hk
            have := of_decide_eq_true k4
            subst this
            exact ⟨a, b, s, hk⟩
          · cases k4
        cases n13 with
        | ref cda =>
          obtain ⟨ccl, cdd, vs, ccs, f, tf, hcode, hvs, hf⟩ : ∃ ccl cdd vs ccs f tf, K.lookup cda = some ⟨ccl, cdd, .fields vs, ccs⟩ ∧ vs[2]? = some (.str f tf) ∧ f = file := by
            have k2' : (match K.lookup cda with
              | some ⟨_, _, .fields vs, _⟩ => (match (vs[2]? : Option Value) with
                | some (.str f _) => decide (f = file)
                | _ => false)
              | _ => false) = true := k2
            split at k2'
            · rename_i a b vs s hk
              split at k2'
              · rename_i f t hv
                exact ⟨a, b, vs, s, f, t, hk, hv, of_decide_eq_true k2'⟩
              · cases k2'
            · cases k2'
          subst hf
          obtain ⟨ar, ha1, ha2⟩ := hp
          obtain ⟨cd, hcd⟩ := Option.isSome_iff_exists.mp (show (PySem.W.clsIn K (He.ga K d.cls)).isSome = true from hcl)
          exact ⟨_, cda, cc, ⟨⟨oc, od, n9, n10, n11, n12, n14, osl, rfl, q, k1⟩, ⟨⟨oc, od, _, osl, ar, q, ha1, ha2⟩, ⟨ccl, cdd, vs, ccs, f, tf, hcode, hvs, hfile⟩, ⟨cl, cld, csl, hcell⟩, ⟨cd, hcd⟩, opq, top, free⟩, kp⟩, oc, od, osl, by first | exact q | rfl⟩
        | _ => cases k2
      | [], k4, _, _ => cases k4
      | _ :: _ :: _, k4, _, _ => cases k4
    | _ => cases c2
structure DefG where
  adr : PySem.W.Frag → Addr
  name : Str
  qual : Str
  params : Arguments
  body : List Stmt
  scope : Scope
  kwd : List (Str × He.Dv) := []
def fnG (K : PySem.W.Frag) (a : Addr) : He.FnW := match K.lookup a with
  | some ⟨_, _, .func fd, _⟩ => some (fd.name, fd.qualname, fd.params, fd.body, fd.scope, fd.globals, fd.closure, fd.builtins)
  | _ => none
def DefG.val (d : DefG) : He.FnW := some (d.name, d.qual, d.params, .stmts d.body, d.scope, mainGlobals, [], builtinsNs)
def DefG.kws (K : PySem.W.Frag) (d : DefG) : List (Str × V) := d.kwd.map fun q => (q.1, q.2.v K)
def DefG.ok (K : PySem.W.Frag) (d : DefG) : Bool := PySem.W.keepIn K (.ref (d.adr K)) && (match K.lookup (d.adr K) with
  | some ⟨_, _, .func fd, _⟩ => PySem.W.codeIn K fd.code d.qual && (He.dflB K fd.defaults [] && He.kwdB K fd.kwdefaults (d.kws K))
  | _ => false)
theorem DefG.funD {K : PySem.W.Frag} {d : DefG} (e : fnG K (d.adr K) = d.val) (c : d.ok K = true) : ∃ fd, FunD K d.name d.qual d.params d.body d.scope [] (d.kws K) (d.adr K) fd := by
  obtain ⟨kp, c2⟩ := He.ba c
  unfold fnG at e
  cases q : K.lookup (d.adr K) with
  | none =>
    rw [q] at c2
    cases c2
  | some o =>
    obtain ⟨oc, od, dt, osl⟩ := o
    rw [q] at c2 e
    cases dt with
    | func fd =>
      obtain ⟨n1, n2, n3, n4, n5, n6, n7, n8, n9, n10, n11, n12, n13, n14, n15⟩ := fd
      have e2 : (some (n1, n2, n3, n4, n5, n6, n7, n15) : He.FnW) = some (d.name, d.qual, d.params, .stmts d.body, d.scope, mainGlobals, [], builtinsNs) := e
      simp only [Option.some.injEq, Prod.mk.injEq] at e2
      obtain ⟨h1, h2, h3, h4, h5, h6, h7, h8⟩ := e2
      subst h1 h2 h3 h4 h5 h6 h7 h8
      have c3 : (PySem.W.codeIn K n13 d.qual && (He.dflB K n8 [] && He.kwdB K n9 (d.kws K))) = true := c2
      obtain ⟨k1, k2⟩ := He.ba c3
      obtain ⟨k3, k4⟩ := He.ba k2
      exact ⟨_, ⟨oc, od, n8, n9, n10, n11, n12, n13, n14, osl, rfl, q, k1, He.dflB_ok k3, He.kwdB_ok k4⟩, kp⟩
    | _ => cases c2
def codeHdB (K : PySem.W.Frag) (c P : Addr) : Bool := match K.lookup c with
  | some ⟨.type ty, _, .fields vs, _⟩ => decide (ty = "code") && ((match (vs[11]? : Option Value) with | some (.ref Q) => decide (Q = P) | _ => false) && ((match vs.getD 18 .none with | .str _ _ => true | _ => false) && ((match vs.getD 7 .none with | .int _ _ => true | _ => false) &&
      ((match vs.getD 9 .none with | .bool _ => true | _ => false) && ((match vs.getD 10 .none with | .int _ _ => true | _ => false) && decide (c ≠ P))))))
  | _ => false
theorem codeHdB_ok {K : PySem.W.Frag} {h : Heap} {c P : Addr} (X : K.In h) (e : codeHdB K c P = true) : PySem.W.CodeHd h c P := by
  unfold codeHdB at e
  split at e
  · rename_i ty dd vs sl hk
    obtain ⟨e1, e⟩ := He.ba e
    obtain ⟨e2, e⟩ := He.ba e
    obtain ⟨e3, e⟩ := He.ba e
    obtain ⟨e4, e⟩ := He.ba e
    obtain ⟨e5, e⟩ := He.ba e
    obtain ⟨e6, e7⟩ := He.ba e
    have e1 := of_decide_eq_true e1
    subst e1
    have e7 := of_decide_eq_true e7
    split at e2
    · rename_i Q hQ
      have e2 := of_decide_eq_true e2
      subst e2
      split at e3
      · rename_i f tf h18
        split at e4
        · rename_i fl tg h7
          split at e5
          · rename_i b h9
            split at e6
            · rename_i tx tt h10
              have hQ2 : vs.getD 11 .none = .ref Q := by
                rw [Array.getD_eq_getD_getElem?, hQ]; rfl
              exact ⟨_, vs, f, tf, fl, tg, b, tx, tt, X _ _ hk, rfl, rfl, hQ, hQ2, h18, h7, h9, h10, e7⟩
            · cases e6
          · cases e5
        · cases e4
      · cases e3
    · cases e2
  · cases e
def emptyTabB : Option Obj → Bool
  | some ⟨.none, none, .fields vs, sl⟩ => decide (vs.size = 0) && decide (sl.size = 0)
  | _ => false
theorem emptyTabB_ok {o : Option Obj} (h : emptyTabB o = true) : o = some { cls := .none, data := .fields #[] } := by
  unfold emptyTabB at h
  split at h
  · rename_i vs sl
    obtain ⟨h1, h2⟩ := He.ba h
    have h1 := of_decide_eq_true h1
    have h2 := of_decide_eq_true h2
    rw [Array.eq_empty_of_size_eq_zero h1, Array.eq_empty_of_size_eq_zero h2]
  · cases h
def tabsB (K : PySem.W.Frag) (g : Addr → Option Obj) : Bool := (tabsAll K).all fun t => codeHdB K t.1 t.2.1 && ((K.lookup t.2.1).isNone && (emptyTabB (g t.2.1) && (tabsAll K).all fun u => decide (u.2.1 = t.2.1 → u.2.2 = t.2.2)))
structure Wants where
  fa : List He.Fa
  ck : List Ck
  fn : List He.DefD
  cf : List DefC
  file : Str
  gf : List DefG := []
abbrev AlM : Type := He.AlD × Bool × Bool × Bool × List FnC × Bool × List He.FnW
def obsM (q : Wants) (K : PySem.W.Frag) (g : Addr → Option Obj) : AlM := (He.obsD q.fa q.fn K, q.ck.all (fun c => c.ok K), q.cf.all (fun d => d.ok K q.file), tabsB K g, (q.cf.map fun d => fnC K d.at_), q.gf.all (fun d => d.ok K), q.gf.map fun d => fnG K (d.adr K))
def valM (q : Wants) : AlM := (He.valD q.fn, true, true, true, q.cf.map DefC.val, true, q.gf.map DefG.val)
structure SaysM (q : Wants) (K : PySem.W.Frag) (h : Heap) : Prop where
  kin : K.In h
  d : He.SaysD q.fa q.fn K
  ck : q.ck.all (fun c => c.ok K) = true
  cf : q.cf.all (fun d => d.ok K q.file) = true
  fc : q.cf.map (fun d => fnC K d.at_) = q.cf.map DefC.val
  gk : q.gf.all (fun d => d.ok K) = true
  gc : q.gf.map (fun d => fnG K (d.adr K)) = q.gf.map DefG.val
  th : ∀ t ∈ tabsAll K, codeHdB K t.1 t.2.1 = true ∧ K.lookup t.2.1 = none ∧ h.get? t.2.1 = some { cls := .none, data := .fields #[] } ∧ ∀ u ∈ tabsAll K, u.2.1 = t.2.1 → u.2.2 = t.2.2
theorem saysM_of {q : Wants} {K : PySem.W.Frag} {h : Heap} (X : K.In h) (e : obsM q K h.get? = valM q) : SaysM q K h := by
  have e1 : He.obsD q.fa q.fn K = He.valD q.fn := congrArg (fun z : AlM => z.1) e
  have e2 : q.ck.all (fun c => c.ok K) = true := congrArg (fun z : AlM => z.2.1) e
  have e3 : q.cf.all (fun d => d.ok K q.file) = true := congrArg (fun z : AlM => z.2.2.1) e
  have e4 : tabsB K h.get? = true := congrArg (fun z : AlM => z.2.2.2.1) e
  have e5 : q.cf.map (fun d => fnC K d.at_) = q.cf.map DefC.val := congrArg (fun z : AlM => z.2.2.2.2.1) e
  have e6 : q.gf.all (fun d => d.ok K) = true := congrArg (fun z : AlM => z.2.2.2.2.2.1) e
  have e7 : q.gf.map (fun d => fnG K (d.adr K)) = q.gf.map DefG.val := congrArg (fun z : AlM => z.2.2.2.2.2.2) e
  refine ⟨X, e1, e2, e3, e5, e6, e7, fun t ht => ?_⟩
  have := List.all_eq_true.mp e4 t ht
  obtain ⟨a1, a2⟩ := He.ba this
  obtain ⟨a2, a3⟩ := He.ba a2
  obtain ⟨a3, a4⟩ := He.ba a3
  exact ⟨a1, by simpa using a2, emptyTabB_ok a3, fun u hu => of_decide_eq_true (List.all_eq_true.mp a4 u hu)⟩
theorem SaysM.keeps {q : Wants} {K : PySem.W.Frag} {h h' : Heap} (s : SaysM q K h) (k : ∀ b o, h.get? b = some o → h'.get? b = some o) : SaysM q K h' :=
  ⟨PySem.W.Frag.In.keeps s.kin k, s.d, s.ck, s.cf, s.fc, s.gk, s.gc, fun t ht => let ⟨a, b, c, d⟩ := s.th t ht; ⟨a, b, k _ _ c, d⟩⟩
section
variable {q : Wants} {K : PySem.W.Frag} {h : Heap}
theorem SaysM.ckf (s : SaysM q K h) (i : Nat) {c : Ck} (e : q.ck[i]? = some c := by rfl) : c.ok K = true := List.all_eq_true.mp s.ck c (List.mem_of_getElem? e)
theorem SaysM.fnc (s : SaysM q K h) (i : Nat) {d : DefC} (e : q.cf[i]? = some d) : fnC K d.at_ = d.val ∧ d.ok K q.file = true := by
  refine ⟨?_, List.all_eq_true.mp s.cf d (List.mem_of_getElem? e)⟩
  have e2 : (q.cf.map fun d => fnC K d.at_)[i]? = (q.cf.map DefC.val)[i]? := by rw [s.fc]
  rw [List.getElem?_map, List.getElem?_map, e] at e2
  exact Option.some.inj e2
theorem SaysM.fng (s : SaysM q K h) (i : Nat) {d : DefG} (e : q.gf[i]? = some d) : ∃ fd, FunD K d.name d.qual d.params d.body d.scope [] (d.kws K) (d.adr K) fd := by
  refine DefG.funD ?_ (List.all_eq_true.mp s.gk d (List.mem_of_getElem? e))
  have e2 : (q.gf.map fun d => fnG K (d.adr K))[i]? = (q.gf.map DefG.val)[i]? := by rw [s.gc]
  rw [List.getElem?_map, List.getElem?_map, e] at e2
  exact Option.some.inj e2
end
theorem walk_ofM {l : PySem.W.OpenLaw} {n k : Nat} {q : Program} {loose : List Str} {XP : (Str → Option Value) → Heap → Prop} {YP : World → Heap → Prop} {d : DefRec} {x : Str}
    (hn : l.most = some n) (hn2 : n ≤ sizeLine) (hdf : d.params.defaults = []) (hr : Room k callerA)
    (F : ∀ (w : World) (mg : Str → Option Value) (fa : Addr) (h : Heap), YP w h → h.Ns mainGlobals mg → mg d.name = some (.ref fa) →
      ∃ (K : PySem.W.Frag) (fd : FuncData) (G : DF), K.In h ∧ (∀ t ∈ tabsAll K, codeHdB K t.1 t.2.1 = true ∧ K.lookup t.2.1 = none ∧ h.get? t.2.1 = some { cls := .none, data := .fields #[] } ∧ ∀ u ∈ tabsAll K, u.2.1 = t.2.1 → u.2.2 = t.2.2) ∧
        (∀ (s : Shared) (u : Value), BindsTo s fd ⟨[u], []⟩ [(x, u)]) ∧
        (∀ (ns : List Int), ns.length ≤ n → (∀ z ∈ ns, Builtin.Int.intBits z ≤ 1048576) → ∃ st, G [.fz (.rol (ns.map P.int))] [] = .ok (.fz (.bl true), st)) ∧
        ∀ base : Heap, K.In base → base.Ns mainGlobals mg → (∀ t ∈ tabsAll K, LamX.TabB base mg t.1 t.2.1) → FnOk l.prog w K mg base (L2.CX l.prog w) k fa fd [x] (spF K G))
    : PySem.W.WalkO q loose XP YP l.row.toRowW d [] (fun f vs => PySem.call f vs) := by
  refine Att.attach_callB hn hdf fun w s₀ s₁ mg mb fa o pm cd doc a vs ns G Y ho hd hcd hmg hobj hints hlen hbits hg => ?_
  obtain ⟨K, fd, DF_, KX, th, hb, hsp, hF⟩ := F w mg fa _ Y G.T.g hmg
  have mem : ∀ p ∈ (tabsAll K).map (fun t => (t.1, t.2.1)), ∃ t ∈ tabsAll K, p = (t.1, t.2.1) := fun p hp => by
    obtain ⟨t, ht, e⟩ := List.mem_map.mp hp
    exact ⟨t, ht, e.symm⟩
  refine LamX.law_callTs (cs := (tabsAll K).map fun t => (t.1, t.2.1)) (CX := L2.CX l.prog w) (sp := spF K DF_) KX G.T.g G.T.b G.T.builtins G.T.nolimit hg (fun p hp => ?_) (fun p hp => ?_) (fun p hp => ?_) G.T.bmain hobj hints (Nat.le_trans hlen hn2) hr (fun base hK hN hT => ?_) hb (fun H hH hS => ?_) fun H e s' z => ?_
  · obtain ⟨t, ht, rfl⟩ := mem p hp; exact (th t ht).2.2.1
  · obtain ⟨t, ht, rfl⟩ := mem p hp; exact (th t ht).2.1
  · obtain ⟨t, ht, rfl⟩ := mem p hp; exact codeHdB_ok KX (th t ht).1
  · exact hF base hK hN fun t ht => hT (t.1, t.2.1) (List.mem_map.mpr ⟨t, ht, rfl⟩)
  · obtain ⟨st, e⟩ := hsp ns hlen hbits
    let Z : Hp := fun b => match H b with
      | some (.tbl _) => none
      | o => o
    have sz : Same Z H := fun b o hb => by
      have hb' : (match H b with | some (.tbl _) => none | o => o) = some o := hb
      split at hb'
      · cases hb'
      · exact hb'
    have sq : SqL K Z a (ns.map V.int) := by
      rcases hS with (h1 | ⟨o, h1⟩) | h1
      · refine .inl (.inl ?_)
        show (match H a with | some (.tbl _) => none | o => o) = _
        rw [h1]
      · refine .inl (.inr ⟨o, ?_⟩)
        show (match H a with | some (.tbl _) => none | o => o) = _
        rw [h1]
      · exact .inr h1
    refine ⟨Z, [], [], [.fz (.rol (ns.map P.int))], ⟨sz, rfl, by simp, fun i b c hi => by simp at hi, fun p hp => ?_, fun b ps hb => ?_⟩, ⟨.ref a, [], rfl, ?_, rfl⟩, ?_⟩
    · obtain ⟨t, ht, rfl⟩ := List.mem_map.mp hp
      exact LamX.TabS.nil (hH (t.1, t.2.1) (List.mem_map.mpr ⟨t, ht, rfl⟩))
    · have hb' : (match H b with | some (.tbl _) => none | o => o) = some (.tbl ps) := hb
      split at hb'
      · cases hb'
      · rename_i hne; exact hne ps hb'
    · show Rep K Z (.rol (ns.map P.int)) (.ref a)
      rw [Rep]
      exact ⟨a, _, rfl, sq, ints_reps ns⟩
    · rw [e]
      intro Z' φ' H' t rs' v r
      exact fz_bl r
  · exact cx_none z
where
  cx_none {P : Program} {w : World} {H : Hp} {s : Shared} {e : Value} {s' : Shared} (z : L2.CX P w [] H s (fun _ _ _ => False) e s') : False := by
    obtain ⟨_, _, _, _, _, _, _, _, _, _, _, _, q⟩ := z
    exact q
end M
end
section
set_option Elab.async false
set_option linter.all false
set_option maxRecDepth 100000
set_option maxHeartbeats 0
namespace M
open PySem L2
theorem frag_mem {a : Addr} {o : Obj} : ∀ {K : PySem.W.Frag}, K.lookup a = some o → (a, o) ∈ K
  | (b, u) :: r, h => by
    rw [List.lookup_cons] at h
    cases q : a == b with
    | true => rw [q] at h; cases h; rw [beq_iff_eq.mp q]; exact List.mem_cons_self
    | false => rw [q] at h; exact List.mem_cons_of_mem _ (frag_mem h)
def inCls (s : Stmt) (j : Nat) : Stmt := match s with
  | .ClassDef _ _ _ b _ _ _ _ _ _ _ => b.getD j (.Pass ⟨0, 0, 0, 0⟩)
  | _ => .Pass ⟨0, 0, 0, 0⟩
section
variable {P : Program} {w : World} {K : PySem.W.Frag} {mg : Str → Option Value} {base : Heap}
theorem fnOk_mono {CX : CXT} {j k : Nat} {f : Addr} {fd : FuncData} {ps : List Str} {sp : Sp} (F : FnOk P w K mg base CX j f fd ps sp) (h : j ≤ k) : FnOk P w K mg base CX k f fd ps sp := ⟨F.len, fun A outer s H args us vs Q E hr => F.run A outer s H args us vs Q E (hr.mono h)⟩
theorem tab_nil {Q : Str → DF → Prop} : ∀ c F, (c, F) ∈ ([] : List (Str × DF)) → Q c F := fun _ _ h => by cases h
theorem tab_cons {Q : Str → DF → Prop} {c : Str} {F : DF} {l : List (Str × DF)} (h : Q c F) (r : ∀ c F, (c, F) ∈ l → Q c F) : ∀ c' F', (c', F') ∈ (c, F) :: l → Q c' F' := fun c' F' hm => by
  rcases List.mem_cons.mp hm with e | e
  · cases e; exact h
  · exact r _ _ e
theorem methT_of {k j : Nat} {g c m : Str} {ps : List Str} {F : DF} (o : Okd P w K mg base j (g, some m) ps F) (hc : Cls K (He.ga K c)) (hm : Meth K (He.ga K c) m (He.ma K (He.ga K c) m)) (he : He.ma K (He.ga K c) m = He.ma K (He.ga K g) m) (h : j ≤ k := by decide) : MethT P w K mg base k m ps c F := by
  obtain ⟨fd, h1, h2⟩ := o.ex
  refine ⟨_, fd, hc, hm, ?_, h2⟩
  rw [he]
  exact fnOk_mono h1 h
/-- the table of a def that makes a lambda -/
theorem tab_at {d : DefC} {fd : FuncData} {cda : Addr} (h : fd.qualname = d.qual ∧ fd.code = .ref cda ∧ ∃ oc od osl, K.lookup (He.fAd K d.at_) = some ⟨oc, od, .func fd, osl⟩) (hl : lamDefs.contains d.qual = true) (hc : (Ck.tab d.at_).ok K = true)
    (tb : ∀ t ∈ tabsAll K, LamX.TabB base mg t.1 t.2.1) (un : ∀ t ∈ tabsAll K, ∀ u ∈ tabsAll K, u.2.1 = t.2.1 → u.2.2 = t.2.2) :
    ∃ P, LamX.TabB base mg cda P ∧ (P, d.qual ++ ".<locals>." ++ "<lambda>") ∈ tabsOf K ∧ ∀ p ∈ tabsOf K, p.1 = P → p.2 = d.qual ++ ".<locals>." ++ "<lambda>" := by
  obtain ⟨h1, h2, oc, od, osl, lk⟩ := h
  have hc2 : (match K.lookup (He.fAd K d.at_) with
    | some o => (tabOf K o).isSome
    | none => false) = true := hc
  rw [lk] at hc2
  have hc3 : (tabOf K ⟨oc, od, .func fd, osl⟩).isSome = true := hc2
  obtain ⟨P, hP⟩ : ∃ P, tabOf K ⟨oc, od, .func fd, osl⟩ = some (cda, P, d.qual ++ ".<locals>." ++ "<lambda>") := by
    unfold tabOf at hc3 ⊢
    dsimp only at hc3 ⊢
    rw [h1, if_pos hl, h2] at hc3
    rw [h1, if_pos hl, h2]
    dsimp only at hc3 ⊢
    split at hc3
    · rename_i a b vs sl hk
      split at hc3
      · rename_i Q hQ
        exact ⟨Q, rfl⟩
      · cases hc3
    · cases hc3
  have hm : (cda, P, d.qual ++ ".<locals>." ++ "<lambda>") ∈ tabsAll K := List.mem_filterMap.mpr ⟨_, frag_mem lk, hP⟩
  refine ⟨P, tb _ hm, List.mem_map.mpr ⟨_, hm, rfl⟩, fun p hp he => ?_⟩
  obtain ⟨u, hu, rfl⟩ := List.mem_map.mp hp
  exact un _ hm u hu he
/-- an error class with one field -/
theorem xok_of {d : DefC} {x c f msg : Str} {j : Nat} {a1 a2 a3 a4 a5 a6 b1 b2 b3 b4 : Pos} {pl : Sem Bool} (h : ∃ fd cda cc, FunC K P mg d.name d.qual d.params d.body d.scope "self" (He.ga K d.cls) (He.fAd K d.at_) fd cda cc ∧ ∃ oc od osl, K.lookup (He.fAd K d.at_) = some ⟨oc, od, .func fd, osl⟩) (hn : d.name = "__init__") (hc : d.cls = c)
    (hbd : d.body = exB f msg j a1 a2 a3 a4 a5 a6 b1 b2 b3 b4) (S : XScope f d.params d.scope) (xc : (Ck.xcls c).ok K = true) (xi : (Ck.xini c f).ok K = true) (xa : (Ck.xat c).ok K = true) (gC : mg x = some (.ref (He.ga K c)))
    (hev : ∀ env : Env, eval (.Call (.Attribute (.Call (.Name "super" a1) [] [] a2) "__init__" a3) [.Constant (.str msg) j a4] [] a5) env = (do
      let ov ← attributeBase (.Call (.Name "super" a1) [] [] a2) "__init__" env (eval (.Call (.Name "super" a1) [] [] a2) env)
      standAt a3.atName
      let (f, first) ← holding [ov] (getMethod ov "__init__" pl)
      callWith a5 f first (backTo a5 (starEach [.Constant (.str msg) j a4] env)) []))
    (hbind : ∀ (s : Shared) (u v kV doc pm ct : Value) (an : Option Addr) (cc cda : Addr), BindsTo s (PySem.W.fnX "__init__" d.qual d.params (exB f msg j a1 a2 a3 a4 a5 a6 b1 b2 b3 b4) d.scope [("__class__", cc)] .none kV doc pm an (.ref cda) ct) ⟨[u, v], []⟩ [("self", u), (f, v)]) :
    XOk P K mg x c f := by
  obtain ⟨fd, cda, cc, F, _⟩ := h
  obtain ⟨cls, nm, qual, params, body, scope⟩ := d
  dsimp only at hn hc hbd F S hbind
  subst hn hc hbd
  obtain ⟨i1, q⟩ := He.ba xi
  obtain ⟨i2, q⟩ := He.ba q
  obtain ⟨i3, q⟩ := He.ba q
  obtain ⟨i4, q⟩ := He.ba q
  obtain ⟨i5, q⟩ := He.ba q
  obtain ⟨i6, i7⟩ := He.ba q
  have A := xat_ok xa
  exact ⟨⟨msg, qual, params, scope, _, cda, cc, fd, j, a1, a2, a3, a4, a5, a6, b1, b2, b3, b4, pl, ⟨xcls_ok xc, He.eqO_ok i1, He.eqO_ok i2, He.eqO_ok i3, of_decide_eq_true i4, He.eqO_ok i5, of_decide_eq_true i6, of_decide_eq_true i7, A.ga, A.gg, A.hdC, F⟩, S, hev, fun s u v kV doc pm ct an => hbind s u v kV doc pm ct an cc cda⟩, gC⟩
end
theorem bt_sorted : bootBuiltins "sorted" = some (.builtin "sorted") := by decide +kernel
theorem bt_bool : bootBuiltins "bool" = some (.type "bool") := by decide +kernel
theorem bt_str : bootBuiltins "str" = some (.type "str") := by decide +kernel
theorem bt_VE : bootBuiltins "ValueError" = some (.type "ValueError") := by decide +kernel
theorem _root_.L2.Room.u64 {k : Nat} {A : Around} (h : Room k A) : A.units + 64 < cLine := by have := h.un; omega
theorem _root_.L2.Room.u1 {k : Nat} {A : Around} (h : Room k A) : A.units + 1 < cLine := by have := h.un; omega
end M
end
section
set_option Elab.async false
set_option linter.all false
set_option maxRecDepth 100000
set_option maxHeartbeats 0
namespace M
open PySem PySem.Spec PyProof.Rows L2
theorem any_ok {K : PySem.W.Frag} {f : PySem.W.Frag → Bool} (h : (Ck.any f).ok K = true) : f K = true := h
def dAndV (f g : DE) : DE := fun η st => (f η st).bind fun a => match a.1 with
  | .fz (.bl c) => if c = true then g η a.2 else .ok (.fz (.bl false), a.2)
  | _ => .stuck
def dOrV (f g : DE) : DE := fun η st => (f η st).bind fun a => match a.1 with
  | .fz (.bl c) => if c = true then .ok (.fz (.bl true), a.2) else g η a.2
  | _ => .stuck
def dNotV (f : DE) : DE := fun η st => (f η st).bind fun a => match a.1 with
  | .fz (.bl c) => .ok (.fz (.bl (!c)), a.2)
  | _ => .stuck
section
variable {X : Cx} {W : WX} {a b : Expr} {rest : List Expr} {pos : Pos} {f g : DE}
theorem de_one {op : BoolOp} (h : PE X a (tE X.K W f)) : PE X (.BoolOp op [a] pos) (tE X.K W f) := pe_one h
theorem de_and (ha : PE X a (tE X.K W f)) (hb : PE X (.BoolOp .And (b :: rest) pos) (tE X.K W g)) : PE X (.BoolOp .And (a :: b :: rest) pos) (tE X.K W (dAndV f g)) := by
  refine (pe_and ha hb).to fun σ H Q hh => ?_
  obtain ⟨Z, φ, η, st, rs, sl, af⟩ := hh
  refine ⟨Z, φ, η, st, rs, sl, af.bind.mono fun a Z' φ' H' t g' rs' v r => ?_⟩
  split at g'
  · rename_i c ec
    rw [ec] at r
    obtain rfl := fz_bl r
    refine ⟨c, rfl, ?_⟩
    split at g'
    · rename_i hc; rw [if_pos hc]; exact ⟨Z', φ', η, _, rs', sl.mono t, g'⟩
    · rename_i hc; rw [if_neg hc]; exact g'.here rs' rep_bl
  · exact g'.elim
theorem de_or (ha : PE X a (tE X.K W f)) (hb : PE X (.BoolOp .Or (b :: rest) pos) (tE X.K W g)) : PE X (.BoolOp .Or (a :: b :: rest) pos) (tE X.K W (dOrV f g)) := by
  refine (pe_or ha hb).to fun σ H Q hh => ?_
  obtain ⟨Z, φ, η, st, rs, sl, af⟩ := hh
  refine ⟨Z, φ, η, st, rs, sl, af.bind.mono fun a Z' φ' H' t g' rs' v r => ?_⟩
  split at g'
  · rename_i c ec
    rw [ec] at r
    obtain rfl := fz_bl r
    refine ⟨c, rfl, ?_⟩
    split at g'
    · rename_i hc; rw [if_pos hc]; exact g'.here rs' rep_bl
    · rename_i hc; rw [if_neg hc]; exact ⟨Z', φ', η, _, rs', sl.mono t, g'⟩
  · exact g'.elim
theorem de_not (ha : PE X a (tE X.K W f)) : PE X (.UnaryOp .Not a pos) (tE X.K W (dNotV f)) := by
  refine (pe_not ha).to fun σ H Q hh => ?_
  obtain ⟨Z, φ, η, st, rs, sl, af⟩ := hh
  refine ⟨Z, φ, η, st, rs, sl, af.bind.mono fun a Z' φ' H' t g' rs' v r => ?_⟩
  split at g'
  · rename_i c ec
    rw [ec] at r
    obtain rfl := fz_bl r
    exact ⟨c, rfl, g'.here rs' rep_bl⟩
  · exact g'.elim
end
open He (ba)
inductive Src where
  | kw (j : Nat) | df (j : Nat)
end M
end
section
set_option Elab.async false
set_option linter.all false
set_option maxRecDepth 100000
set_option maxHeartbeats 0
namespace M
open PySem PySem.Spec PyProof.Rows L2
end M
end
section
set_option Elab.async false
set_option linter.all false
set_option maxRecDepth 100000
set_option maxHeartbeats 0
namespace M
open PySem L2
section
variable {X : Cx} {W : WX} {o e : Expr} {f : DE} {fs : DA} {apos cpos : Pos}
theorem de_pop1 (ho : PE X o (tE X.K W f)) (ha : PA X [e] (tA X.K W fs)) (hbase : attributeBase o "pop" X.env (eval o X.env) = eval o X.env := by rfl)
    (hfew : ((backTo cpos (starEach (e :: []) X.env)).all (fun x => !x.1) && (backToKw cpos (keywordEach [] X.env)).all (fun x => x.1.isSome)
      && decide ((e :: ([] : List Expr)).length + ([] : List Keyword).length + (if ([] : List Keyword).isEmpty then 0 else 1) < 30)) = true := by rfl)
    (hline : (apos.endLine == cpos.line) = true := by rfl) (hs : starEach (e :: []) X.env = (false, eval e X.env) :: starEach [] X.env := by rfl) (hplain : (backTo cpos (starEach [] X.env)).any (·.1) = false := by rfl) :
    PE X (.Call (.Attribute o "pop" apos) [e] [] cpos) (tE X.K W (dBM isLst popO f fs)) := de_bm isLst_ty PySem.F.plainAttrs_list PySem.F.slot_list_pop PySem.F.type_list_pop m_pop ho ha hbase hfew hline hs hplain
end
end M
end
section
set_option Elab.async false
set_option linter.all false
set_option maxRecDepth 100000
set_option maxHeartbeats 0
namespace M
open PySem L2
section
variable {K : PySem.W.Frag} {W : WX} {Z Z' Z2 H H' : Hp} {φ φ' : List Addr} {st : Sr} {Q : VK}
theorem RepDF.cut {a : Addr} (e : Same Z' Z2) : ∀ {fs : List (Str × D)} {gs gs0 : List (Str × V)}, RepDF K Z' (φ ++ [a]) fs gs → RepDF K Z φ fs gs0 → RepDF K Z2 φ fs gs
  | [], gs, gs0, h, _ => h
  | (k, d) :: fs, gs, gs0, h, h0 => by
    obtain ⟨v, ws, rfl, h1, h2⟩ := h
    obtain ⟨v0, ws0, rfl, g1, g2⟩ := h0
    refine ⟨v, ws, rfl, ?_, RepDF.cut e h2 g2⟩
    cases d with
    | fz p => exact Rep.mono e p v h1
    | cell m =>
      obtain ⟨b, hb, rfl⟩ := h1
      obtain ⟨b0, hb0, _⟩ := g1
      have hl := (List.getElem?_eq_some_iff.mp hb0).1
      exact ⟨b, by rw [List.getElem?_append_left hl] at hb; exact hb, rfl⟩
theorem RepDs.cut {a : Addr} (e : Same Z' Z2) : ∀ {fs : List D} {gs gs0 : List V}, RepDs K Z' (φ ++ [a]) fs gs → RepDs K Z φ fs gs0 → RepDs K Z2 φ fs gs
  | [], gs, gs0, h, _ => h
  | d :: fs, gs, gs0, h, h0 => by
    obtain ⟨v, ws, rfl, h1, h2⟩ := h
    obtain ⟨v0, ws0, rfl, g1, g2⟩ := h0
    refine ⟨v, ws, rfl, ?_, RepDs.cut e h2 g2⟩
    cases d with
    | fz p => exact Rep.mono e p v h1
    | cell m =>
      obtain ⟨b, hb, rfl⟩ := h1
      obtain ⟨b0, hb0, _⟩ := g1
      have hl := (List.getElem?_eq_some_iff.mp hb0).1
      exact ⟨b, by rw [List.getElem?_append_left hl] at hb; exact hb, rfl⟩
/-- what is promised of a frozen list holds of a new cell -/
theorem Af.thaw {xs : List P} (rs : RS K Z φ st H) (af : Af K W Z φ H (.ok (.fz (.lst xs), st)) (GE K Q)) : Af K W Z φ H (.ok (.cell st.length, st ++ [.lst xs])) (GE K Q) := by
  intro Z' φ' H' s rs' v rv
  obtain ⟨a, ha, rfl⟩ := rv
  obtain ⟨psi, rfl, hpsi⟩ := s.pre
  have hl := rs'.len
  rw [List.length_append, List.length_append, rs.len] at hl
  obtain ⟨a', rfl⟩ : ∃ a', psi = [a'] := List.length_eq_one_iff.mp (by simpa using hl)
  have ea : a' = a := by
    rw [← rs.len, List.getElem?_append_right (Nat.le_refl _), Nat.sub_self] at ha
    simpa using ha
  subst ea
  obtain ⟨hz, vs, h1, h2⟩ := rs'.cells st.length a' (.lst xs) ha (by simp)
  have sz : Same Z' (upd Z' a' (.lst vs)) := fun b u hb => by rw [upd_ne (by rintro rfl; rw [hz] at hb; cases hb)]; exact hb
  have na : a' ∉ φ := fun hm => (List.nodup_append.mp rs'.nd).2.2 a' hm a' (by simp) rfl
  refine af (upd Z' a' (.lst vs)) φ H' ⟨s.hz.trans sz, ⟨[], by simp, by simp⟩, s.fr, fun b hb => ?_, s.up, s.lk⟩ ⟨fun b u hb => ?_, rs.len, rs.nd, fun j b c hj hc => ?_, rs'.tb, fun b ps z => ?_⟩ (.ref a') ?_
  · by_cases q : b = a'
    · subst q; exact .inr (.inl (hpsi b (by simp)))
    · rw [upd_ne q] at hb; exact s.zn b hb
  · by_cases q : b = a'
    · subst q; rw [upd_same] at hb; cases hb; exact h1
    · rw [upd_ne q] at hb; exact rs'.same b u hb
  · have nb : b ≠ a' := by rintro rfl; exact na (List.mem_of_getElem? hj)
    have hlj := (List.getElem?_eq_some_iff.mp hj).1
    have hj' : (φ ++ [a'])[j]? = some b := by rw [List.getElem?_append_left hlj]; exact hj
    have hc' : (st ++ [Ct.lst xs])[j]? = some c := by rw [List.getElem?_append_left (by rw [← rs.len]; exact hlj)]; exact hc
    have r := rs'.cells j b c hj' hc'
    have r0 := rs.cells j b c hj hc
    cases c with
    | lst ys => obtain ⟨g1, ws, g2, g3⟩ := r; exact ⟨by rw [upd_ne nb]; exact g1, ws, g2, g3.mono sz⟩
    | dct kvs => obtain ⟨g1, ws, g2, g3⟩ := r; exact ⟨by rw [upd_ne nb]; exact g1, ws, g2, RepK.mono sz _ _ g3⟩
    | ldct kvs => obtain ⟨g1, o, ws, g2, g3⟩ := r; exact ⟨by rw [upd_ne nb]; exact g1, o, ws, g2, RepK.mono sz _ _ g3⟩
    | dn kvs => obtain ⟨g1, ws, g2, g3⟩ := r; exact ⟨by rw [upd_ne nb]; exact g1, ws, g2, RepN.mono sz _ _ g3⟩
    | obj c fs =>
      obtain ⟨g1, dx, gs, g2, g3⟩ := r
      obtain ⟨_, _, gs0, _, g4⟩ := r0
      exact ⟨by rw [upd_ne nb]; exact g1, dx, gs, g2, g3.cut sz g4⟩
    | frz p => obtain ⟨g1, o, g2, g3⟩ := r; exact ⟨Rep.mono sz _ _ g1, o, g2, g3⟩
    | lsD ys =>
      obtain ⟨g1, gs, g2, g3⟩ := r
      obtain ⟨_, gs0, _, g4⟩ := r0
      exact ⟨by rw [upd_ne nb]; exact g1, gs, g2, g3.cut sz g4⟩
    | tuD ys =>
      obtain ⟨g1, gs, g2, g3⟩ := r
      obtain ⟨_, gs0, _, g4⟩ := r0
      exact ⟨by rw [upd_ne nb]; exact g1, gs, g2, g3.cut sz g4⟩
  · by_cases q : b = a'
    · subst q; rw [upd_same] at z; cases z
    · rw [upd_ne q] at z; exact rs'.zd b ps z
  · show Rep _ _ _ _
    rw [Rep]
    exact ⟨a', vs, rfl, upd_same, h2.mono sz⟩
end
def addF (d e : D) (st : Sr) : R (D × Sr) := match peek st d, peek st e with
  | some (.lst xs), some (.lst ys) => if xs.length + ys.length ≤ szL then .ok (.fz (.lst (xs ++ ys)), st) else .stuck
  | _, _ => addO d e st
def slF (d : D) (lo hi : Option Int) (st : Sr) : R (D × Sr) := match peek st d with
  | some (.tup xs) => .ok (.fz (.tup (cutP xs lo hi)), st)
  | some (.lst xs) => .ok (.fz (.lst (cutP xs lo hi)), st)
  | some (.rol xs) => .ok (.fz (.lst (cutP xs lo hi)), st)
  | _ => .stuck
def dSlF (f : DE) (l u : DO) : DE := fun η st => (f η st).bind fun a => (l η a.2).bind fun b => (u η b.2).bind fun c => slF a.1 b.1 c.1 c.2
def listF (ds : List D) (st : Sr) : R (D × Sr) := match ds with
  | [d] => match (peek st d).bind itemsP with
    | some xs => .ok (.fz (.lst xs), st)
    | none => .stuck
  | _ => .stuck
def lstF (ds : List D) (st : Sr) : R (D × Sr) := match toPs st ds with
  | some (ps, st') => if ps.length ≤ szL then .ok (.fz (.lst ps), st') else .stuck
  | none => .stuck
section
variable {K : PySem.W.Frag} {W : WX} {Z H : Hp} {φ : List Addr} {st : Sr} {Q : VK} {d e : D} {ds : List D}
theorem addF_to (rs : RS K Z φ st H) (af : Af K W Z φ H (addF d e st) (GE K Q)) : Af K W Z φ H (addO d e st) (GE K Q) := by
  unfold addF at af
  split at af
  · rename_i xs ys h1 h2
    have e : addO d e st = (if xs.length + ys.length ≤ szL then R.ok (D.cell st.length, st ++ [Ct.lst (xs ++ ys)]) else .stuck) := by unfold addO; rw [h1, h2]
    rw [e]
    by_cases hz : xs.length + ys.length ≤ szL
    · rw [if_pos hz] at af ⊢; exact af.thaw rs
    · rw [if_neg hz] at af; exact af.elim
  · exact af
theorem slF_to {lo hi : Option Int} (rs : RS K Z φ st H) (af : Af K W Z φ H (slF d lo hi st) (GE K Q)) : Af K W Z φ H (slO d lo hi st) (GE K Q) := by
  unfold slF at af
  unfold slO
  split at af
  · rename_i xs h1; first | exact af | (rw [h1]; exact af)
  · rename_i xs h1; first | exact af.thaw rs | (rw [h1]; exact af.thaw rs)
  · rename_i xs h1; first | exact af.thaw rs | (rw [h1]; exact af.thaw rs)
  · exact af.elim
theorem listF_to (rs : RS K Z φ st H) (af : Af K W Z φ H (listF ds st) (GE K Q)) : Af K W Z φ H (listO ds st) (GE K Q) := by
  unfold listF at af
  unfold listO
  split at af
  · rename_i d
    try dsimp only
    split at af
    · rename_i h1; first | exact af.thaw rs | (rw [h1]; exact af.thaw rs)
    · exact af.elim
  · exact af.elim
end
section
variable {X : Cx} {W : WX} {a e : Expr} {es : List Expr} {f g : DE} {fs : DA} {pos p p1 p2 p3 : Pos}
theorem o_addF : OpR X (binaryOp .Add) (rM X.K W addF) := fun pins s σ H x y v u Q I rx ry ⟨d, e, Z, φ, st, rs, rd, re, af⟩ => o_add pins s σ H x y v u Q I rx ry ⟨d, e, Z, φ, st, rs, rd, re, addF_to rs af⟩
theorem c_listF : CallR X (.type "list") (rMA X.K W listF) := fun pins s σ H xs us Q I r ⟨ds, Z, φ, st, rs, rdd, af⟩ => c_list pins s σ H xs us Q I r ⟨ds, Z, φ, st, rs, rdd, listF_to rs af⟩
theorem s_slF : SlR X (fun x lo hi H Q => ∃ d, ∃ Z φ st, RS X.K Z φ st H ∧ RepD X.K Z φ d x ∧ Af X.K W Z φ H (slF d lo hi st) (GE X.K Q)) := fun pins s σ H x v vl vu lo hi sl Q I rx hs pl pu ⟨d, Z, φ, st, rs, rd, af⟩ => s_sl pins s σ H x v vl vu lo hi sl Q I rx hs pl pu ⟨d, Z, φ, st, rs, rd, slF_to rs af⟩
theorem de_slF {lo hi : Option Expr} {l u : DO} (ha : PE X a (tE X.K W f)) (hl : PO X lo (tO X.K W l)) (hu : PO X hi (tO X.K W u)) : PE X (.Subscript a (.Slice lo hi none p2) pos) (tE X.K W (dSlF f l u)) := by
  refine (pe_slice (s_slF (W := W)) ha hl hu).to fun σ H Q h => ?_
  obtain ⟨Z, φ, η, st, rs, sl, af⟩ := h
  refine ⟨Z, φ, η, st, rs, sl, af.bind.mono fun a Z' φ' H' t g' rs' v r => ?_⟩
  refine ⟨Z', φ', η, a.2, rs', sl.mono t, g'.bind.mono fun b Z2 φ2 H2 t2 g2 rs2 => ?_⟩
  refine ⟨Z2, φ2, η, b.2, rs2, (sl.mono t).mono t2, g2.bind.mono fun c Z3 φ3 H3 t3 g3 rs3 => ?_⟩
  exact ⟨a.1, Z3, φ3, c.2, rs3, (r.mono t2.hz t2.app).mono t3.hz t3.app, g3⟩
theorem de_lstF (h : PA X es (tA X.K W fs)) : PE X (.List es pos) (tE X.K W (dAp lstF fs)) := by
  refine (pe_lst h).to fun σ H Q h => ?_
  obtain ⟨Z, φ, η, st, rs, sl, af⟩ := h
  refine ⟨Z, φ, η, st, rs, sl, af.bind.mono fun a Z' φ' H' t g' rs' vs r => ?_⟩
  unfold lstF at g'
  split at g'
  · rename_i ps st' e
    split at g'
    · rename_i hz
      obtain ⟨Z2, f2, rs2, q2⟩ := toPs_ok rs' e r
      refine ⟨by rw [← q2.length, ← szL_eq]; exact hz, fun p hp => ?_⟩
      exact (g'.later f2.step).newZ rs2 hp fun sz => by rw [Rep]; exact ⟨p, vs, rfl, upd_same, q2.mono sz⟩
    · exact g'.elim
  · exact g'.elim
end
def lcZ (r : R (List P × Sr)) : R (D × Sr) := r.calm.bind fun a => .ok (.fz (.lst a.1), a.2)
section
variable {X : Cx} {W : WX}
def LcJ (K : PySem.W.Frag) (W : WX) (i : Nat) (t : DT) (fe : DE) (η : Et) (Q : VK) (σ : St) (Z0 : Hp) (φ0 : List Addr) (H0 : Hp) (p : Addr) (Ex : Hp → Prop) (ys : List P) (H : Hp) : Prop :=
  ∃ Z φ st acc, RS K Z φ st H ∧ Slots K Z φ η σ ∧ Ex Z ∧ Mk1 K Z φ H p acc ∧ Step Z0 φ0 H0 Z φ H ∧ Af K W Z0 φ0 H0 (lcZ (lcD i t fe η ys acc st)) (GE K Q)
variable {K : PySem.W.Frag} {i : Nat} {t : DT} {fe : DE} {η : Et} {Q : VK} {σ : St} {Z0 H0 : Hp} {φ0 : List Addr} {p : Addr} {Ex : Hp → Prop}
theorem LcJ.done {H : Hp} (h0 : H0 p = none) (h : LcJ K W i t fe η Q σ Z0 φ0 H0 p Ex [] H) : Q (.ref p) H := by
  obtain ⟨Z, φ, st, acc, rs, sl, ex, m, s, af⟩ := h
  obtain ⟨vs, h1, h2⟩ := m.at_
  have af2 : Af K W Z0 φ0 H0 (.ok (.fz (.lst acc), st)) (GE K Q) := af
  have sz : Same Z (upd Z p (.lst vs)) := fun b u hb => by rw [upd_ne (by rintro rfl; rw [m.zn] at hb; cases hb)]; exact hb
  refine af2 (upd Z p (.lst vs)) φ H ⟨s.hz.trans sz, s.pre, s.fr, fun b hb => ?_, s.up, s.lk⟩ ⟨fun b u hb => ?_, rs.len, rs.nd, fun j b c hj hc => ?_, rs.tb, fun b ps z => ?_⟩ (.ref p) ?_
  · by_cases q : b = p
    · subst q; exact .inr (.inl (.of h0))
    · rw [upd_ne q] at hb; exact s.zn b hb
  · by_cases q : b = p
    · subst q; rw [upd_same] at hb; cases hb; exact h1
    · rw [upd_ne q] at hb; exact rs.same b u hb
  · have nb : b ≠ p := by rintro rfl; exact m.out (List.mem_of_getElem? hj)
    exact (rs.cells j b c hj hc).keep sz ⟨[], by simp⟩ (fun q => by rw [upd_ne nb]; exact (rs.cells j b c hj hc).free q) fun u hu _ => hu
  · by_cases q : b = p
    · subst q; rw [upd_same] at z; cases z
    · rw [upd_ne q] at z; exact rs.zd b ps z
  · show Rep _ _ _ _
    rw [Rep]
    exact ⟨p, vs, rfl, upd_same, h2.mono sz⟩
theorem lcZ_some {r : R (List P × Sr)} {Z : Hp} {φ : List Addr} {H : Hp} (h : Af K W Z φ H (lcZ r) (GE K Q)) : ∃ a, r = .ok a := by
  cases r with
  | ok a => exact ⟨a, rfl⟩
  | exc => exact h.elim
  | stuck => exact h.elim
theorem LcJ.turn (h0 : H0 p = none) (hm : ∀ Z Z', Same Z Z' → Ex Z → Ex Z') {x : P} {ys : List P} {H : Hp} {v : V} (h : LcJ K W i t fe η Q σ Z0 φ0 H0 p Ex (x :: ys) H) (hv : ∀ Z, Same Z H → Ex Z → Rep K Z x v) :
    tT K W0 t (σ.set i (some v)) H (fun b H3 => if b = true then tE K W0 fe (σ.set i (some v)) H3 (fun y H4 => ∃ acc, H4 p = some (.lst acc) ∧ acc.length < sizeLine ∧ LcJ K W i t fe η Q σ Z0 φ0 H0 p Ex ys (upd H4 p (.lst (acc ++ [y])))) else LcJ K W i t fe η Q σ Z0 φ0 H0 p Ex ys H3) := by
  obtain ⟨Z, φ, st, acc, rs, sl, ex, m, s, af⟩ := h
  have slv : Slots K Z φ (η.set i (some (.fz x))) (σ.set i (some v)) := sl.set (hv Z rs.same ex)
  refine ⟨Z, φ, _, st, rs, slv, ?_⟩
  obtain ⟨⟨acc', st'⟩, he⟩ := lcZ_some af
  have he0 := he
  unfold lcD at he
  cases e1 : t (η.set i (some (.fz x))) st with
  | exc => rw [e1] at he; cases he
  | stuck => rw [e1] at he; cases he
  | ok a =>
    rw [e1] at he
    intro Z1 φ1 H1 s1 rs1
    have he1 : (if a.1 = true then (fe (η.set i (some (.fz x))) a.2).bind fun b => match toP b.2 b.1 with
      | some (p, st2) => if acc.length < szL then lcD i t fe η ys (acc ++ [p]) st2 else .stuck
      | none => .stuck
    else lcD i t fe η ys acc a.2) = .ok (acc', st') := he
    have m1 := m.step s1
    by_cases ha : a.1 = true
    · rw [if_pos ha] at he1 ⊢
      refine ⟨Z1, φ1, _, a.2, rs1, slv.mono s1, ?_⟩
      cases e2 : fe (η.set i (some (.fz x))) a.2 with
      | exc => rw [e2] at he1; cases he1
      | stuck => rw [e2] at he1; cases he1
      | ok b =>
        rw [e2] at he1
        intro Z2 φ2 H2 s2 rs2 y ry
        have he2 : (match toP b.2 b.1 with
          | some (p, st2) => if acc.length < szL then lcD i t fe η ys (acc ++ [p]) st2 else .stuck
          | none => .stuck) = .ok (acc', st') := he1
        have m2 := m1.step s2
        obtain ⟨vs, h1, h2⟩ := m2.at_
        cases e3 : toP b.2 b.1 with
        | none => rw [e3] at he2; cases he2
        | some pr =>
          obtain ⟨q, st3⟩ := pr
          rw [e3] at he2
          dsimp only at he2
          split at he2
          · rename_i hz
            obtain ⟨Z3, f3, rs3, r3⟩ := toP_ok rs2 e3 ry
            have m3 := m2.step f3.step
            obtain ⟨rs4, m4⟩ := m3.push rs3 h1 r3
            have s3 := ((s.trans s1).trans s2).trans f3.step
            refine ⟨vs, h1, by rw [← h2.length, ← szL_eq]; exact hz, Z3, φ2, st3, acc ++ [q], rs4, ((sl.mono s1).mono s2).mono f3.step, hm _ _ f3.hz (hm _ _ s2.hz (hm _ _ s1.hz ex)), m4, ?_, ?_⟩
            · refine ⟨s3.hz, s3.pre, fun b o hb hn ht => ?_, s3.zn, fun b hb => ?_, fun b q u hb => by rw [upd_ne (by rintro rfl; rw [h0] at hb; cases hb)]; exact s3.lk b q u hb⟩
              · rw [upd_ne]
                · exact s3.fr b o hb hn ht
                · rintro rfl
                  rw [h0] at hb; cases hb
              · by_cases q : b = p
                · subst q; exact .of h0
                · exact s3.up b fun o ho => hb o (by rw [upd_ne q]; exact ho)
            · rw [he2]; rw [he0] at af; exact af
          · cases he2
    · rw [if_neg ha] at he1 ⊢
      exact ⟨Z1, φ1, a.2, acc, rs1, sl.mono s1, hm _ _ s1.hz ex, m1, s.trans s1, by rw [he1]; rw [he0] at af; exact af⟩
end
end M
end
section
set_option Elab.async false
set_option linter.all false
set_option maxRecDepth 100000
set_option maxHeartbeats 0
namespace M
open PySem L2
end M
end
section
set_option Elab.async false
set_option linter.all false
set_option maxRecDepth 100000
set_option maxHeartbeats 0
namespace M
open PySem PySem.Spec PyProof.Rows L2
abbrev Hd := Value × Option (Nat × Str) × (Addr → Value → Option Addr → TS)
/-- the ends of a suite whose name is taken away behind it -/
def ends_ (i : Nat) (D : Ends) : Ends := { nx := fun σ H => D.nx (σ.set i none) H, rt := D.rt, bk := fun σ H => D.bk (σ.set i none) H, ct := fun σ H => D.ct (σ.set i none) H }
def wHds (K : PySem.W.Frag) (Wout : WX) (D : Ends) : List Hd → WX
  | [] => Wout
  | (c, none, ts) :: r => fun cls d σ H => ∃ b, PySem.W.exmOne K cls c = some b ∧ (b = true → ∀ a, H a = none → ts a cls d D σ H) ∧ (b = false → wHds K Wout D r cls d σ H)
  | (c, some (i, _), ts) :: r => fun cls d σ H => ∃ b, PySem.W.exmOne K cls c = some b ∧ (b = true → ∀ a, H a = none → ts a cls d (ends_ i D) (σ.set i (some (.ref a))) H) ∧ (b = false → wHds K Wout D r cls d σ H)
def SuOk (X : Cx) (su : List Stmt) (ts : Addr → Value → Option Addr → TS) : Prop := ∀ (a : Addr) (oe : Obj) (cls : Value) (d : Option Addr) (pn : List (Addr × Obj)), Zc cls d oe → (∃ vs, oe.data = .fields vs) → PSs (X.suite a ((a, oe) :: pn)) su (ts a cls d)
inductive HdsM (X : Cx) : List ExceptHandler → List Hd → Prop
  | nil : HdsM X [] []
  | one {x : Str} {c : Value} {ts : Addr → Value → Option Addr → TS} {b₀ : Stmt} {su : List Stmt} {np pos : Pos} {hds : List ExceptHandler} {l : List Hd} (hc : Names X x c) (hsu : SuOk X (b₀ :: su) ts) (r : HdsM X hds l) :
      HdsM X (.ExceptHandler (some (.Name x np)) none (b₀ :: su) pos :: hds) ((c, none, ts) :: l)
  | as {x n : Str} {i : Nat} {c : Value} {ts : Addr → Value → Option Addr → TS} {b₀ : Stmt} {su : List Stmt} {np pos : Pos} {hds : List ExceptHandler} {l : List Hd} (hi : X.N[i]? = some n) (hln : X.env.kindOf n = some .local) (hc : Names X x c) (hsu : SuOk X (b₀ :: su) ts) (r : HdsM X hds l) :
      HdsM X (.ExceptHandler (some (.Name x np)) (some n) (b₀ :: su) pos :: hds) ((c, some (i, n), ts) :: l)
section
variable {X : Cx} {Wout : WX} {D : Ends} {pins : List (Addr × Obj)}
theorem x_test {a : Addr} {ps : List (Addr × Obj)} {σ : L2.St} {H : Hp} {x : Str} {c : Value} {np : Pos} {s : Shared} {Q : Value → Shared → Prop} {E : Value → Shared → Prop} (S : Inv (X.suite a ps) [] σ H s) (hc : Names X x c) (q : Q c s) :
    wpAny (model X.prog X.w) (X.A.mark (some (.ref a))) (eval (.Name x np) X.env) Q E s := by
  obtain ⟨hg, hdb, hm | ⟨hm, hv, hn⟩⟩ := hc
  · exact ld_glob (X := X.suite a ps) S hg hm q hdb
  · exact ld_blt (X := X.suite a ps) S hg hm hv q hn hdb
/-- a caught exception lies at a, and has landed -/
structure Cgt (X : Cx) (pins : List (Addr × Obj)) (a : Addr) (B : Heap) (sI : Shared) (s : Shared) (cls : Value) (d : Option Addr) (σ : L2.St) (H : Hp) : Prop where
  fl : HandSPX.FlyingZ B (X.env :: X.outer) a (Zc cls d) s.heap
  J : Inv X pins σ H sI
  nb : ∀ b o, sI.heap.get? b = some o → b ∉ frs X.stack → B.get? b = some o
  up : sI.heap.UpToSlots s.heap
  na : H a = none
  os : s.os = sI.os
  ag : AllBare s.gens
theorem Cgt.inv {a : Addr} {B : Heap} {sI s : Shared} {cls : Value} {d : Option Addr} {σ : L2.St} {H : Hp} (C : Cgt X pins a B sI s cls d σ H) : Inv X pins σ H s := C.J.landed C.nb C.fl.1 C.up C.os C.ag
theorem Cgt.suite (hf : X.env.frame = some X.env.locals) {a : Addr} {B : Heap} {sI s : Shared} {cls : Value} {d : Option Addr} {σ : L2.St} {H : Hp} (C : Cgt X pins a B sI s cls d σ H) :
    ∃ oe, s.heap.get? a = some oe ∧ Zc cls d oe ∧ (∃ vs, oe.data = .fields vs) ∧ Inv (X.suite a ((a, oe) :: (X.pn ++ pins))) [] σ H s := by
  obtain ⟨oe, vs, he, hz, hd⟩ := C.fl.there
  have nfr : a ∉ frs (X.env :: X.outer) := fun hm => by
    obtain ⟨_, o', e', hnf⟩ := C.fl.2.2.1.mem hm
    rw [he] at e'; cases e'
    exact hnf _ hd
  refine ⟨oe, he, hz, ⟨vs, hd⟩, C.inv.suite he hd C.na (fun z => nfr (List.mem_filterMap.mpr ⟨X.env, List.mem_cons_self, by rw [hf, z]⟩)) fun hm => ?_⟩
  obtain ⟨e, he, q⟩ := List.mem_filterMap.mp hm
  exact nfr (List.mem_filterMap.mpr ⟨e, List.mem_cons_of_mem _ he, q⟩)
/-- no clause is left: the exception goes on -/
theorem Cgt.out (hs : X.stack = X.env :: X.outer) (hf : X.env.frame = some X.env.locals) (tk : Takes X Wout) {a : Addr} {B : Heap} {sI s : Shared} {cls : Value} {d : Option Addr} {σ : L2.St} {H : Hp} (C : Cgt X pins a B sI s cls d σ H) (w : Wout cls d σ H) :
    wpAny (model X.prog X.w) X.A (handleBy (.ref a) X.env []) (SP X pins D) X.xe s := by
  refine wpAny_handleBy_nil ?_
  have fl := C.fl
  obtain ⟨k1, k2, k3, oe, vs, T, oT, ts', he, hz, hd, h1, hr⟩ := id fl
  unfold PySem.passOn
  refine wpAny_bind (wpAny_field he hd h1 ?_)
  rw [if_neg (show ¬ ((Value.ref T == Value.none) = true) from by simp)]
  have fin : wpAny (model X.prog X.w) X.A (setFlight (.ref a) X.env.frame) (fun _ s4 => wpAny (model X.prog X.w) X.A (throw (.ref a) : Sem Flow) (SP X pins D) X.xe s4) X.xe s := by
    rw [hf]
    exact HandSPX.setFlight_upZ fl fun h4 hh4 up4 => wpAny_throw (tk _ _ ⟨a, B, sI, pins, σ, H, cls, d, rfl, C.J, C.nb, C.up.trans up4, .inr (.inr (by rw [hs]; exact hh4)), C.na, C.os, C.ag, w⟩)
  first
    | exact wpAny_bind (wpAny_pure (wpAny_bind fin))
    | exact wpAny_bind fin
theorem hds_run (hN : X.N.Nodup) (hs : X.stack = X.env :: X.outer) (hf : X.env.frame = some X.env.locals) (tk : Takes X Wout) {hds : List ExceptHandler} {l : List Hd} (hk : HdsM X hds l) {a : Addr} {B : Heap} {sI s : Shared} {cls : Value} {d : Option Addr} {σ : L2.St} {H : Hp}
    (C : Cgt X pins a B sI s cls d σ H) (w : wHds X.K Wout D l cls d σ H) : wpAny (model X.prog X.w) X.A (handleBy (.ref a) X.env hds) (SP X pins D) X.xe s := by
  have ok := C.J.ok
  induction hk with
  | nil => exact C.out hs hf tk w
  | one hc hsu r ih =>
    obtain ⟨b, hb1, hyes, hno⟩ := w
    obtain ⟨oe, he, hz, hv, S⟩ := C.suite hf
    refine wpAny_handleBy_cons (codeAny_handlers_test ?_) (by intro q; cases q)
    refine x_test S hc ((PySem.W.exm_one (M := model X.prog X.w) C.inv.kIn (fun A Q E s k q => wpAny_typeOf_ref (k _ _ he) (by rw [hz.1]; exact q)) hb1).here ?_)
    cases b with
    | false => exact ih (hno rfl)
    | true =>
      refine codeAny_handlers_suite (HandSPX.lands_againZ C.fl fun h4 fl4 up4 => ?_)
      have C4 : Cgt X pins a B sI { s with heap := h4 } cls d σ H := ⟨fl4, C.J, C.nb, C.up.trans up4, C.na, C.os, C.ag⟩
      obtain ⟨oe4, he4, hz4, hv4, S4⟩ := C4.suite hf
      refine wpAny_mono ((hsu a oe4 cls d (X.pn ++ pins) hz4 hv4).run [] _ _ H _ S4 (hyes rfl a C.na)) (fun f s6 hsp => ?_) (fun _ _ z => False.elim z)
      cases f with
      | next => obtain ⟨σ6, H6, S6, q6⟩ := hsp; exact ⟨_, _, S6.unsuite ok, q6⟩
      | brk => obtain ⟨σ6, H6, S6, q6⟩ := hsp; exact ⟨_, _, S6.unsuite ok, q6⟩
      | cont => obtain ⟨σ6, H6, S6, q6⟩ := hsp; exact ⟨_, _, S6.unsuite ok, q6⟩
      | ret u => obtain ⟨v6, σ6, H6, S6, r6, q6⟩ := hsp; exact ⟨_, _, _, S6.unsuite ok, r6, q6⟩
  | @as x n i c ts b₀ su np pos hds l hi hln hc hsu r ih =>
    obtain ⟨b, hb1, hyes, hno⟩ := w
    obtain ⟨oe, he, hz, hv, S⟩ := C.suite hf
    refine wpAny_handleBy_cons (codeAny_handlers_test ?_) (by intro q; cases q)
    refine x_test S hc ((PySem.W.exm_one (M := model X.prog X.w) C.inv.kIn (fun A Q E s k q => wpAny_typeOf_ref (k _ _ he) (by rw [hz.1]; exact q)) hb1).here ?_)
    cases b with
    | false => exact ih (hno rfl)
    | true =>
      refine codeAny_handlers_suite_as (HandSPX.lands_againZ C.fl fun h4 fl4 up4 => ?_)
      have C4 : Cgt X pins a B sI { s with heap := h4 } cls d σ H := ⟨fl4, C.J, C.nb, C.up.trans up4, C.na, C.os, C.ag⟩
      obtain ⟨oe4, he4, hz4, hv4, S4⟩ := C4.suite hf
      refine store_ok (X := X.suite a ((a, oe4) :: (X.pn ++ pins))) (v := .ref a) S4 hN hi (.inl hln) rfl (fun s5 S5 => ?_) (.inr hln)
      refine wpAny_mono ((hsu a oe4 cls d (X.pn ++ pins) hz4 hv4).run [] s5 _ H _ S5 (hyes rfl a C.na)) (fun f s6 hsp => ?_) (fun _ _ z => False.elim z)
      have end_ : ∀ {σ6 : L2.St} {H6 : Hp} {Q : Shared → Prop}, Inv (X.suite a ((a, oe4) :: (X.pn ++ pins))) [] σ6 H6 s6 → (∀ s7, Inv X pins (σ6.set i none) H6 s7 → Q s7) →
          wpAny (model X.prog X.w) X.A (do bindName X.env n .none; unbindBehindTheSuite X.env n pos) (fun _ s7 => Q s7) X.xe s6 := fun {σ6 H6 Q} S6 hq => gone_ok (S6.unsuite ok) hN hi hln hq
      cases f with
      | next => obtain ⟨σ6, H6, S6, q6⟩ := hsp; exact end_ S6 fun s7 J7 => ⟨_, _, J7, q6⟩
      | brk => obtain ⟨σ6, H6, S6, q6⟩ := hsp; exact end_ S6 fun s7 J7 => ⟨_, _, J7, q6⟩
      | cont => obtain ⟨σ6, H6, S6, q6⟩ := hsp; exact end_ S6 fun s7 J7 => ⟨_, _, J7, q6⟩
      | ret u => obtain ⟨v6, σ6, H6, S6, r6, q6⟩ := hsp; exact end_ S6 fun s7 J7 => ⟨_, _, _, J7, r6, q6⟩
theorem ps_try_hds {body : List Stmt} {h₀ : ExceptHandler} {hds : List ExceptHandler} {l : List Hd} {pos : Pos} {tb : WX → TS} (hN : X.N.Nodup) (hs : X.stack = X.env :: X.outer) (hf : X.env.frame = some X.env.locals) (tk : Takes X Wout)
    (hb : ∀ (W : WX) (pn : List (Addr × Obj)) (xe : Value → Shared → Prop), Takes (X.tr pn xe) W → PassesOwn (model X.prog X.w) X.A X.env xe → PSs (X.tr pn xe) body (tb W))
    (hh : HdsM X (h₀ :: hds) l) : PS X (.Try body (h₀ :: hds) [] [] pos) (fun D σ H => tb (wHds X.K Wout D l) D σ H) := by
  refine ⟨fun pins s σ H D I h => ?_⟩
  have ok := I.ok
  have hfr : X.A.frames = some (X.env :: X.outer) := by rw [ok.frames, hs]
  refine wpAny_Try_except ?_
  refine wpAny_mono ((hb (wHds X.K Wout D l) (X.pn ++ pins) (fun e s₁ => wpAny (model X.prog X.w) X.A (noteFrame e X.env) (fun _ s₂ => wpAny (model X.prog X.w) X.A (setFlight e none) (fun _ s₃ =>
    wpAny (model X.prog X.w) X.A (handleBy e X.env (h₀ :: hds)) (SP X pins D) X.xe s₃) X.xe s₂) X.xe s₁) (fun u s' xx => ?_) PassesOwn.looking).run [] s σ H D (I.toTry _) h) (fun f s1 hsp => ?_) (fun e s1 he => he)
  · obtain ⟨a, B, sI, pins', σ', H', cls, d, rfl, J', nb, up, sky, na, os, ag, w⟩ := xx
    have sky' : Sky B (X.env :: X.outer) a (Zc cls d) X.env.locals s'.heap := by rw [← hs]; exact sky
    exact Sky.land Zc.steady hfr hf sky' fun h3 fl3 up3 => hds_run hN hs hf tk hh ⟨fl3, J'.ofTry ok, nb, up.trans up3, na, os, ag⟩ w
  · cases f with
    | next => obtain ⟨σ', H', J', q⟩ := hsp; exact wpAny_execs_nil ⟨σ', H', J'.ofTry ok, q⟩
    | brk => obtain ⟨σ', H', J', q⟩ := hsp; exact ⟨σ', H', J'.ofTry ok, q⟩
    | cont => obtain ⟨σ', H', J', q⟩ := hsp; exact ⟨σ', H', J'.ofTry ok, q⟩
    | ret u => obtain ⟨v, σ', H', J', r, q⟩ := hsp; exact ⟨v, σ', H', J'.ofTry ok, r, q⟩
end
abbrev DHd := List (Str × Bool) × Option Nat × (Str → Option (List (Str × P)) → DS)
def okOnly : R (Fl × Et × Sr) → R (Fl × Et × Sr)
  | .ok r => .ok r
  | _ => .stuck
def dHds (c : Str) (fs : Option (List (Str × P))) (η1 : Et) (st1 : Sr) : List DHd → R (Fl × Et × Sr)
  | [] => .exc c fs η1 st1
  | (tab, oi, su) :: r => match look1 c tab with
    | some true => match oi with
      | some i => if i < η1.length then fromSuite i (su c fs (η1.set i none) st1) else .stuck
      | none => okOnly (su c fs η1 st1)
    | some false => dHds c fs η1 st1 r
    | none => .stuck
def dTryM (b : DS) (hs : List DHd) : DS := fun η st => match b η st with
  | .ok r => .ok r
  | .exc c fs η1 st1 => dHds c fs η1 st1 hs
  | .stuck => .stuck
inductive HdsD (X : Cx) : List ExceptHandler → List DHd → Prop
  | nil : HdsD X [] []
  | one {x xc : Str} {tab : List (Str × Bool)} {su : Str → Option (List (Str × P)) → DS} {b₀ : Stmt} {ss : List Stmt} {np pos : Pos} {hds : List ExceptHandler} {l : List DHd} (hc : Names X x (.ref (He.ga X.K xc)))
      (hT : ∀ c b, (c, b) ∈ tab → PySem.W.exmOne X.K (.ref (He.ga X.K c)) (.ref (He.ga X.K xc)) = some b)
      (hsu : ∀ (a : Addr) (oe : Obj) (pn : List (Addr × Obj)) (c : Str) (fs : Option (List (Str × P))), PSs (X.suite a ((a, oe) :: pn)) (b₀ :: ss) (tS X.K W0 (su c fs))) (r : HdsD X hds l) :
      HdsD X (.ExceptHandler (some (.Name x np)) none (b₀ :: ss) pos :: hds) ((tab, none, su) :: l)
  | as {x n xc : Str} {i : Nat} {tab : List (Str × Bool)} {su : Str → Option (List (Str × P)) → DS} {b₀ : Stmt} {ss : List Stmt} {np pos : Pos} {hds : List ExceptHandler} {l : List DHd} (hc : Names X x (.ref (He.ga X.K xc)))
      (hT : ∀ c b, (c, b) ∈ tab → PySem.W.exmOne X.K (.ref (He.ga X.K c)) (.ref (He.ga X.K xc)) = some b)
      (hsu : ∀ (a : Addr) (oe : Obj) (cls : Value) (d : Option Addr) (pn : List (Addr × Obj)) (c : Str) (fs : Option (List (Str × P))), Zc cls d oe → (∃ vs, oe.data = .fields vs) → PSs (X.suite a ((a, oe) :: pn)) (b₀ :: ss) (tSX X.K W0 a cls d i c fs (su c fs))) (r : HdsD X hds l)
      (hi : X.N[i]? = some n := by rfl) (hln : X.env.kindOf n = some .local := by rfl) :
      HdsD X (.ExceptHandler (some (.Name x np)) (some n) (b₀ :: ss) pos :: hds) ((tab, some i, su) :: l)
section
variable {X : Cx} {W : WX}
theorem hds_af {hds : List ExceptHandler} {dl : List DHd} (hk : HdsD X hds dl) : ∃ l, HdsM X hds l ∧ ∀ (E : Ends) (Z : Hp) (φ : List Addr) (H : Hp) (c : Str) (fs : Option (List (Str × P))) (η1 : Et) (st1 : Sr),
    Af X.K W Z φ H (dHds c fs η1 st1 dl) (GS X.K E) → Af X.K (wHds X.K W E l) Z φ H (.exc c fs η1 st1) (GS X.K E) := by
  induction hk with
  | nil => exact ⟨[], .nil, fun E Z φ H c fs η1 st1 h => h⟩
  | @one x xc tab su b₀ ss np pos hds dl hc hT hsu r ih =>
    obtain ⟨l, hl, go⟩ := ih
    refine ⟨(.ref (He.ga X.K xc), none, fun a cls d E σ H => ∃ c fs, tS X.K W0 (su c fs) E σ H) :: l, .one hc (fun a oe cls d pn hz hv => ⟨fun pins s σ H D I ⟨c, fs, h⟩ => (hsu a oe pn c fs).run pins s σ H D I h⟩) hl, fun E Z φ H c fs η1 st1 af => ?_⟩
    unfold dHds at af
    cases el : look1 c tab with
    | none => rw [el] at af; exact af.elim
    | some bv =>
      rw [el] at af
      have hex := hT c bv (look1_mem el)
      cases bv with
      | false =>
        have q := go E Z φ H c fs η1 st1 af
        intro σ' H' Z' φ' t rs' sl'
        have q := q σ' H' Z' φ' t rs' sl'
        cases fs with
        | none => exact ⟨false, hex, fun z => Bool.noConfusion z, fun _ => q⟩
        | some l => exact fun dx gs h1 h2 => ⟨false, hex, fun z => Bool.noConfusion z, fun _ => q dx gs h1 h2⟩
      | true =>
        dsimp only at af
        intro σ' H' Z' φ' t rs' sl'
        have main : ∃ c' fs', tS X.K W0 (su c' fs') E σ' H' := by
          refine ⟨c, fs, Z', φ', η1, st1, rs', sl', ?_⟩
          have af1 := af.later t
          cases es : su c fs η1 st1 with
          | ok r => rw [es] at af1; exact af1
          | exc => rw [es] at af1; exact af1.elim
          | stuck => rw [es] at af1; exact af1.elim
        cases fs with
        | none => exact ⟨true, hex, fun _ a ha => main, fun z => Bool.noConfusion z⟩
        | some l => exact fun dx gs h1 h2 => ⟨true, hex, fun _ a ha => main, fun z => Bool.noConfusion z⟩
  | @as x n xc i tab su b₀ ss np pos hds dl hc hT hsu r hi hln ih =>
    obtain ⟨l, hl, go⟩ := ih
    refine ⟨(.ref (He.ga X.K xc), some (i, n), fun a cls d E σ H => ∃ c fs, tSX X.K W0 a cls d i c fs (su c fs) E σ H) :: l, .as hi hln hc (fun a oe cls d pn hz hv => ⟨fun pins s σ H D I ⟨c, fs, h⟩ => (hsu a oe cls d pn c fs hz hv).run pins s σ H D I h⟩) hl, fun E Z φ H c fs η1 st1 af => ?_⟩
    unfold dHds at af
    cases el : look1 c tab with
    | none => rw [el] at af; exact af.elim
    | some bv =>
      rw [el] at af
      have hex := hT c bv (look1_mem el)
      cases bv with
      | false =>
        have q := go E Z φ H c fs η1 st1 af
        intro σ' H' Z' φ' t rs' sl'
        have q := q σ' H' Z' φ' t rs' sl'
        cases fs with
        | none => exact ⟨false, hex, fun z => Bool.noConfusion z, fun _ => q⟩
        | some l => exact fun dx gs h1 h2 => ⟨false, hex, fun z => Bool.noConfusion z, fun _ => q dx gs h1 h2⟩
      | true =>
        dsimp only at af
        split at af
        · rename_i hlen
          have main : ∀ (σ' : L2.St) (H' Z' : Hp) (φ' : List Addr) (d : Option Addr) (a : Addr), Step Z φ H Z' φ' H' → RS X.K Z' φ' st1 H' → Slots X.K Z' φ' η1 σ' → XF X.K a (.ref (He.ga X.K c)) d i c fs Z' (σ'.set i (some (.ref a))) →
              ∃ c' fs', tSX X.K W0 a (.ref (He.ga X.K c)) d i c' fs' (su c' fs') (ends_ i E) (σ'.set i (some (.ref a))) H' := by
            intro σ' H' Z' φ' d a t rs' sl' xf
            refine ⟨c, fs, Z', φ', η1.set i none, st1, rs', sl'.unset, xf, ?_⟩
            have af1 := af.later t
            cases es : su c fs (η1.set i none) st1 with
            | ok r =>
              obtain ⟨fl, η2, st2⟩ := r
              rw [es] at af1
              intro Z2 φ2 H2 t2 rs2
              have g2 := af1 Z2 φ2 H2 t2 rs2
              cases fl with
              | nx => exact fun σ2 sl2 _ => g2 _ sl2.unset
              | bk => exact fun σ2 sl2 => g2 _ sl2.unset
              | ct => exact fun σ2 sl2 => g2 _ sl2.unset
              | rt x => exact g2
            | exc => rw [es] at af1; exact af1.elim
            | stuck => rw [es] at af1; exact af1.elim
          have at_ : ∀ (σ' : L2.St) (a : Addr), η1.length = σ'.length → (σ'.set i (some (V.ref a)))[i]? = some (some (.ref a)) := fun σ' a hl => by
            rw [List.getElem?_set_self (by rw [← hl]; exact hlen)]
          intro σ' H' Z' φ' t rs' sl'
          cases fs with
          | none => exact ⟨true, hex, fun _ a ha => main σ' H' Z' φ' none a t rs' sl' ⟨at_ σ' a sl'.len, rfl, trivial, .inl rfl⟩, fun z => Bool.noConfusion z⟩
          | some l =>
            intro dx gs h1 h2
            obtain ⟨Z2, sz, hz2, rs2, t2⟩ := rs'.freezeX h1
            exact ⟨true, hex, fun _ a ha => main σ' H' Z2 φ' (some dx) a (t.trans t2) rs2 (sl'.mono t2) ⟨at_ σ' a sl'.len, rfl, ⟨dx, gs, rfl, hz2, RepF.mono sz _ _ h2⟩, .inr ⟨dx, gs, rfl, hz2⟩⟩, fun z => Bool.noConfusion z⟩
        · exact af.elim
theorem ds_tryM {body : List Stmt} {h₀ : ExceptHandler} {hds : List ExceptHandler} {dl : List DHd} {pos : Pos} {b : DS} (hN : X.N.Nodup) (tk : Takes X W)
    (hb : ∀ (W' : WX) (pn : List (Addr × Obj)) (xe : Value → Shared → Prop), Takes (X.tr pn xe) W' → PassesOwn (model X.prog X.w) X.A X.env xe → PSs (X.tr pn xe) body (tS X.K W' b))
    (hk : HdsD X (h₀ :: hds) dl) (hs : X.stack = X.env :: X.outer := by rfl) (hf : X.env.frame = some X.env.locals := by rfl) :
    PS X (.Try body (h₀ :: hds) [] [] pos) (tS X.K W (dTryM b dl)) := by
  obtain ⟨l, hl, go⟩ := hds_af (W := W) hk
  refine (ps_try_hds (tb := fun W' => tS X.K W' b) hN hs hf tk hb hl).to fun E σ H h => ?_
  obtain ⟨Z, φ, η, st, rs, sl, af⟩ := h
  refine ⟨Z, φ, η, st, rs, sl, ?_⟩
  unfold dTryM at af
  cases e : b η st with
  | ok r => rw [e] at af; exact af
  | stuck => rw [e] at af; exact af.elim
  | exc c fs η1 st1 => rw [e] at af; exact go E Z φ H c fs η1 st1 af
/-- raise C('text'), C without an own __init__ -/
def dRaiseT (c : Str) : DS := fun η st => .exc c none η st
theorem ds_raiseT {x m : Str} {j : Nat} {p p2 pos pos2 : Pos} (hc : X.calm = true) (F : (He.Fa.exc x).ok X.K = true) (gC : X.mg x = some (.ref (He.ga X.K x))) (tk : Takes X W) (hg : Gl X x) (hdb : (x == ("__debug__" : Str)) = false := by decide) :
    PS X (.Raise (some (.Call (.Name x p) [.Constant (.str m) j p2] [] pos)) none pos2) (tS X.K W (dRaiseT x)) := by
  obtain ⟨c1, c2, c3, c4⟩ := He.exc_ok F
  refine (ps_raise hc tk (pmk_own PySem.F.excBase_ValueError c1 gC c2 (raises_own c3 c4) hg hdb)).to fun E σ H h => ?_
  obtain ⟨Z, φ, η, st, rs, sl, af⟩ := h
  exact af σ H Z φ .refl rs sl
end
end M
end
section
set_option Elab.async false
set_option linter.all false
set_option maxRecDepth 100000
set_option maxHeartbeats 0
namespace M
open PySem L2
end M
end
section
set_option Elab.async false
set_option linter.all false
set_option maxRecDepth 100000
set_option maxHeartbeats 0
namespace M
open PySem L2
section
variable {K : PySem.W.Frag} {Z H : Hp} {φ : List Addr}
theorem RepDF.look {f : Str} : ∀ {fs : List (Str × D)} {gs : List (Str × V)} {d : D}, RepDF K Z φ fs gs → fs.lookup f = some d → ∃ v, gs.lookup f = some v ∧ RepD K Z φ d v
  | [], gs, p, h, e => by cases e
  | (k, q) :: fs, gs, p, h, e => by
    obtain ⟨v, ws, rfl, h1, h2⟩ := h
    rw [List.lookup_cons] at e
    rw [List.lookup_cons]
    split at e
    · rename_i hk; cases e; exact ⟨v, rfl, h1⟩
    · rename_i hk
      obtain ⟨v', g1, g2⟩ := RepDF.look h2 e
      exact ⟨v', g1, g2⟩
def putD (f : Str) (d : D) : List (Str × D) → List (Str × D)
  | [] => [(f, d)]
  | (g, x) :: r => if g = f then (g, d) :: r else (g, x) :: putD f d r
theorem putD_ok {f : Str} {d : D} {w : V} (hd : RepD K Z φ d w) : ∀ {fs : List (Str × D)} {gs : List (Str × V)}, RepDF K Z φ fs gs → RepDF K Z φ (putD f d fs) (putF f w gs)
  | [], gs, h => by cases h; exact ⟨w, [], rfl, hd, rfl⟩
  | (k, q) :: fs, gs, h => by
    obtain ⟨v, ws, rfl, h1, h2⟩ := h
    unfold putD putF
    by_cases e : k = f
    · rw [if_pos e, if_pos e]; exact ⟨w, ws, rfl, hd, h2⟩
    · rw [if_neg e, if_neg e]; exact ⟨v, _, rfl, h1, putD_ok hd h2⟩
theorem RepDF.len : ∀ {fs : List (Str × D)} {gs : List (Str × V)}, RepDF K Z φ fs gs → fs.length = gs.length
  | [], gs, h => by cases h; rfl
  | (k, q) :: fs, gs, h => by obtain ⟨v, ws, rfl, _, h2⟩ := h; simp [RepDF.len h2]
def fldD (f : Str) (cs : List Str) (st : Sr) : D → Option D
  | .fz (.obj c fs) => if cs.contains c = true then (fs.lookup f).map D.fz else none
  | .cell n => match st[n]? with
    | some (.obj c fs) => if cs.contains c = true then fs.lookup f else none
    | some (.frz (.obj c fs)) => if cs.contains c = true then (fs.lookup f).map D.fz else none
    | _ => none
  | _ => none
theorem fldD_ok {f : Str} {cs : List Str} {st : Sr} {d d' : D} {v : V} (rs : RS K Z φ st H) (e : fldD f cs st d = some d') (r : RepD K Z φ d v) : ∃ a c dx gs w, v = .ref a ∧ H a = some (.ins (He.ga K c) dx gs) ∧ cs.contains c = true ∧ gs.lookup f = some w ∧ RepD K Z φ d' w := by
  have fzc : ∀ {c : Str} {fs : List (Str × P)} {v : V}, (if cs.contains c = true then (fs.lookup f).map D.fz else none) = some d' → Rep K Z (.obj c fs) v → ∃ a c dx gs w, v = .ref a ∧ H a = some (.ins (He.ga K c) dx gs) ∧ cs.contains c = true ∧ gs.lookup f = some w ∧ RepD K Z φ d' w := by
    intro c fs v e h
    split at e
    · rename_i hc
      obtain ⟨p, e1, rfl⟩ := Option.map_eq_some_iff.mp e
      rw [Rep] at h
      obtain ⟨a, dx, gs, rfl, h2, h3⟩ := h
      obtain ⟨w, g1, g2⟩ := h3.look e1
      exact ⟨a, c, dx, gs, w, rfl, rs.same _ _ h2, hc, g1, g2⟩
    · cases e
  cases d with
  | fz p =>
    cases p with
    | obj c fs => exact fzc e r
    | _ => cases e
  | cell n =>
    obtain ⟨a, h1, rfl⟩ := r
    obtain ⟨ct, hc, rc⟩ := rs.at_ h1
    have e' : (match st[n]? with
      | some (.obj c fs) => if cs.contains c = true then fs.lookup f else none
      | some (.frz (.obj c fs)) => if cs.contains c = true then (fs.lookup f).map D.fz else none
      | _ => none) = some d' := e
    rw [hc] at e'
    cases ct with
    | obj c fs =>
      dsimp only at e'
      split at e'
      · rename_i hcc
        obtain ⟨_, dx, gs, h2, h3⟩ := rc
        obtain ⟨w, g1, g2⟩ := h3.look e'
        exact ⟨a, c, dx, gs, w, rfl, h2, hcc, g1, g2⟩
      · cases e'
    | frz p =>
      cases p with
      | obj c fs => exact fzc e' rc.1
      | _ => cases e'
    | lst xs => cases e'
    | dct xs => cases e'
    | lsD xs => cases e'
    | tuD xs => cases e'
    | ldct xs => cases e'
    | dn xs => cases e'
end
/-- e.f -/
def dFld (f : Str) (cs : List Str) (g : DE) : DE := fun η st => (g η st).bind fun a => match fldD f cs a.2 a.1 with
  | some d => .ok (d, a.2)
  | none => .stuck
/-- o.f = v -/
def dSetA (f : Str) (cs : List Str) (v o : DE) : DS := fun η st => (v η st).bind fun a => (o η a.2).bind fun b => match b.1 with
  | .cell n => match b.2[n]? with
    | some (.obj c fs) => if cs.contains c = true ∧ fs.length < 1000 then .ok (.nx, η, b.2.set n (.obj c (putD f a.1 fs))) else .stuck
    | _ => .stuck
  | _ => .stuck
def FldT (K : PySem.W.Frag) (f : Str) (c : Str) : Prop := Cls K (He.ga K c) ∧ NoAttr K (He.ga K c) f
section
variable {X : Cx} {W : WX} {e o value : Expr} {f : Str} {pos pos' : Pos} {fe fo fv : DE} {cs : List Str}
theorem de_fld (hT : ∀ c, cs.contains c = true → FldT X.K f c) (he : PE X e (tE X.K W fe)) (hb : attributeBase e f X.env (eval e X.env) = eval e X.env := by rfl) : PE X (.Attribute e f pos) (tE X.K W (dFld f cs fe)) := by
  refine (pe_fld he hb).to fun σ H Q h => ?_
  obtain ⟨Z, φ, η, st, rs, sl, af⟩ := h
  refine ⟨Z, φ, η, st, rs, sl, af.bind.mono fun a Z' φ' H' t g' rs' v r => ?_⟩
  split at g'
  · rename_i d e1
    obtain ⟨x, c, dx, gs, w, rfl, hx, hc, hl, hw⟩ := fldD_ok rs' e1 r
    obtain ⟨h1, h2⟩ := hT c hc
    exact ⟨x, _, dx, gs, w, rfl, hx, h1, h2, hl, g'.here rs' hw⟩
  · exact g'.elim
theorem ds_setA (hT : ∀ c, cs.contains c = true → FldT X.K f c) (hv : PE X value (tE X.K W fv)) (ho : PE X o (tE X.K W fo)) (hs : swapsWith value (some (.Attribute o f pos')) pos.line X.env = pure false := by rfl) : PS X (.Assign [.Attribute o f pos'] value pos) (tS X.K W (dSetA f cs fv fo)) := by
  refine (ps_fld ho hv hs).to fun E σ H hh => ?_
  obtain ⟨Z, φ, η, st, rs, sl, af⟩ := hh
  refine ⟨Z, φ, η, st, rs, sl, af.bind.mono fun a Z' φ' H' t g' rs' v r => ?_⟩
  refine ⟨Z', φ', η, a.2, rs', sl.mono t, g'.bind.mono fun b Z2 φ2 H2 t2 g2 rs2 u r2 => ?_⟩
  split at g2
  · rename_i n en
    rw [en] at r2
    split at g2
    · rename_i c fs e1
      split at g2
      · rename_i hz
        obtain ⟨ad, had, rfl⟩ := r2
        obtain ⟨ct, hct, rc⟩ := rs2.at_ had
        rw [e1] at hct; cases hct
        obtain ⟨hzn, dx, gs, hH, hR⟩ := rc
        obtain ⟨h1, h2⟩ := hT c hz.1
        refine ⟨ad, _, dx, gs, rfl, hH, h1, h2, by rw [← hR.len]; exact hz.2, ?_⟩
        have rv := r.mono t2.hz t2.app
        obtain ⟨rs5, t5⟩ := rs2.write (o := .ins (He.ga X.K c) dx (putF f v gs)) (c := .obj c (putD f a.1 fs)) had hzn ⟨hzn, dx, _, upd_same, putD_ok rv hR⟩ (fun _ _ z => by rw [hH] at z; cases z)
        exact g2 _ _ _ t5 rs5 σ ((((sl.mono t).mono t2)).mono t5)
      · exact g2.elim
    · exact g2.elim
  · exact g2.elim
end
/-- what is wanted of a class that is made -/
def NewT (P : Program) (w : World) (K : PySem.W.Frag) (mg : Str → Option Value) (base : Heap) (k : Nat) (ps : List Str) (c : Str) (F : DF) : Prop :=
  ∃ f2 fd, Mk K (He.ga K c) f2 ∧ FnOk P w K mg base (L2.CX P w) k f2 fd ps (spF K F) ∧ Binds K fd ps []
def noX {α : Type} (r : R α) : R α := match r with
  | .ok a => .ok a
  | _ => .stuck
def dProp (tab : List (Str × DF)) (g : DE) : DE := fun η st => (g η st).bind fun a => match (clsOf a.2 a.1).bind fun c => look1 c tab with
  | some F => noX (callF F [a.1] η a.2)
  | none => .stuck
def PropT (P : Program) (w : World) (K : PySem.W.Frag) (mg : Str → Option Value) (base : Heap) (k : Nat) (f : Str) (ps : List Str) (c : Str) (F : DF) : Prop :=
  ∃ p g fd, Cls K (He.ga K c) ∧ PropOf K (He.ga K c) f p g ∧ FnOk P w K mg base (L2.CX P w) k g fd ps (spF K F) ∧ Binds K fd ps []
section
variable {X : Cx} {W : WX} {f : Str} {pos : Pos} {e : Expr} {fe : DE} {k j : Nat} {ps : List Str} {tab : List (Str × DF)}
theorem Af.noX {α : Type} {K : PySem.W.Frag} {W W0 : WX} {Z H : Hp} {φ : List Addr} {r : R α} {G : α → Hp → List Addr → Hp → Prop} (h : Af K W Z φ H (M.noX r) G) : Af K W0 Z φ H r G := by
  cases r with
  | ok a => exact h
  | exc c fs η st => exact h.elim
  | stuck => exact h.elim
theorem de_prop (hT : ∀ c F, (c, F) ∈ tab → PropT X.prog X.w X.K X.mg X.base k f ps c F) (hr : Room j X.A) (he : PE X e (tE X.K W fe)) (hk : k + 1 ≤ j := by decide) (hb : attributeBase e f X.env (eval e X.env) = eval e X.env := by rfl) : PE X (.Attribute e f pos) (tE X.K W (dProp tab fe)) := by
  refine ⟨fun pins s σ H Q I h => ?_⟩
  obtain ⟨Z, φ, η, st, rs, sl, af⟩ := h
  refine attr_of hb (thn (he.run pins s σ H (fun v H1 => ∃ d Z φ st, RS X.K Z φ st H1 ∧ Slots X.K Z φ η σ ∧ RepD X.K Z φ d v ∧ Af X.K W Z φ H1 (match (clsOf st d).bind fun c => look1 c tab with
    | some F => noX (callF F [d] η st)
    | none => .stuck) (GE X.K Q)) I ⟨Z, φ, η, st, rs, sl, af.bind.mono fun a Z' φ' H' t g' rs' v r => ⟨a.1, Z', φ', a.2, rs', sl.mono t, r, g'⟩⟩) fun u s1 ⟨v, H1, I1, r1, q1⟩ => ?_)
  obtain ⟨d, Z1, φ1, st1, rs1, sl1, rd, af1⟩ := q1
  split at af1
  · rename_i F eF
    obtain ⟨c, ec, el⟩ := Option.bind_eq_some_iff.mp eF
    obtain ⟨x, dx, gs, rfl, hx⟩ := clsOf_ok rs1 ec rd
    obtain ⟨p, g, fd, hc, hp, Fo, hbb⟩ := hT c F (look1_mem el)
    obtain rfl : u = Value.ref x := r1
    have hq : spF X.K F [.ref x] H1 Q (WE (fun _ _ _ _ => False) σ) := call_sp (ds := [d]) (η := η) rs1 sl1 ⟨_, [], rfl, rd, rfl⟩ af1.noX
    exact getprop_ok I1 hx hc hp Fo (hr.mono hk) hbb (dvs := []) .nil (fun pins σ' H s e s' I c => by
      obtain ⟨_, _, _, _, _, _, _, _, _, _, _, _, hE⟩ := c
      exact hE) hq
  · exact af1.elim
end
end M
end
section
set_option Elab.async false
set_option linter.all false
set_option maxRecDepth 100000
set_option maxHeartbeats 0
namespace M
open PySem L2
section
variable {X : Cx} {W : WX} {p pos apos : Pos} {o : Expr} {f : DE} {k j : Nat} {ps : List Str} {m : Str}
theorem de_meth0 {tab : List (Str × DF)} {pl : Sem Bool} (tk : Takes X W) (hT : ∀ c F, (c, F) ∈ tab → MethT X.prog X.w X.K X.mg X.base k m ps c F) (hr : Room j X.A) (he : PE X o (tE X.K W f)) (hk : k ≤ j := by decide)
    (ht : eval (.Call (.Attribute o m apos) [] [] pos) X.env = (do
      let ov ← eval o X.env
      standAt apos.atName
      let (f, first) ← holding [ov] (getMethod ov m pl)
      callWith pos f first (backTo pos (starEach [] X.env)) (backToKw pos (keywordEach [] X.env))) := by rfl) :
    PE X (.Call (.Attribute o m apos) [] [] pos) (tE X.K W (dMeth m tab f dNil)) := by
  refine ⟨fun pins s σ H Q I h => ?_⟩
  obtain ⟨Z, φ, η, st, rs, sl, af⟩ := h
  refine PySem.W.methodCall_KW (pl := pl) (thn (he.run pins s σ H (fun v H1 => ∃ d Z φ st, RS X.K Z φ st H1 ∧ Slots X.K Z φ η σ ∧ RepD X.K Z φ d v ∧ Af X.K W Z φ H1 (match (clsM m st d).bind fun c => look1 c tab with
    | some F => callF F [d] η st
    | none => .stuck) (GE X.K Q)) I ⟨Z, φ, η, st, rs, sl, af.bind.mono fun a Z' φ' H' t g' rs' v r => ⟨a.1, Z', φ', a.2, rs', sl.mono t, r, g'⟩⟩) fun u s1 ⟨v, H1, I1, r1, q1⟩ => ?_) ht
  obtain ⟨d, Z1, φ1, st1, rs1, sl1, rd, af1⟩ := q1
  split at af1
  · rename_i F eF
    obtain ⟨c, ec, el⟩ := Option.bind_eq_some_iff.mp eF
    obtain ⟨x, dx, gs, rfl, hx, hn⟩ := clsM_ok rs1 ec rd
    obtain ⟨f2, fd, hc, hm, Fo, hb⟩ := hT c F (look1_mem el)
    obtain rfl : u = Value.ref x := r1
    refine getmeth_ok I1 hx hc hm hn ?_
    have hq : spF X.K F [.ref x] H1 Q (WE W σ) := call_sp (ds := [d]) (η := η) rs1 sl1 ⟨_, [], rfl, rd, rfl⟩ af1
    refine PySem.W.callWith_K0 (first := [.ref x]) I1.kIn hm.kp ?_
    have r6 : Vals [V.ref x] [Value.ref x] := .cons rfl .nil
    have hl : [Value.ref x].length = ps.length := by rw [← r6.length]; exact Fo.len _ _ _ _ hq
    have bb := hb s1 [.ref x] I1.kIn (by rw [List.append_nil]; exact hl)
    rw [List.append_nil] at bb
    refine wpAny_call (codeAny_mono (Fo.run X.A X.stack s1 H1 ⟨[.ref x], []⟩ [.ref x] [.ref x] Q (WE W σ) (hr.mono hk) I1.env0 bb r6 hq) fun r s' hq => ?_)
    cases r with
    | error e => exact passAt tk σ pins H1 s1 e s' I1 hq
    | ok fl =>
      cases fl with
      | ret u => exact I1.after hq
      | next => exact False.elim hq
      | brk => exact False.elim hq
      | cont => exact False.elim hq
  · exact af1.elim
end
end M
end
section
set_option Elab.async false
set_option linter.all false
set_option maxRecDepth 100000
set_option maxHeartbeats 0
namespace M
open PySem L2 ClX
end M
end
section
set_option Elab.async false
set_option linter.all false
set_option maxRecDepth 100000
set_option maxHeartbeats 0
namespace M
open PySem L2
open Classical in
noncomputable def loopC (n : Nat) (zs : List P) (g : DG) (b : DS) : List P → Et → Sr → R (Fl × Et × Sr)
  | [], η, st => if st[n]? = some (.lst zs) then .ok (.nx, η, st) else .stuck
  | x :: xs, η, st => if st[n]? = some (.lst zs) then match g (.fz x) η st with
    | none => .stuck
    | some η1 => (b η1 st).bind fun r => match r.1 with
      | .nx => loopC n zs g b xs r.2.1 r.2.2
      | .ct => loopC n zs g b xs r.2.1 r.2.2
      | .bk => .ok (.nx, r.2.1, r.2.2)
      | .rt d => .ok (.rt d, r.2.1, r.2.2)
    else .stuck
section
variable {K : PySem.W.Frag} {W : WX} {g : DG} {b : DS} {D : Ends}
def LpC (K : PySem.W.Frag) (W : WX) (g : DG) (b : DS) (D : Ends) (n : Nat) (ad : Addr) (zs ys : List P) (σ : St) (H : Hp) : Prop :=
  ∃ Z φ η st, RS K Z φ st H ∧ Slots K Z φ η σ ∧ φ[n]? = some ad ∧ st[n]? = some (.lst zs) ∧ Af K W Z φ H (loopC n zs g b ys η st) (GS K D)
theorem loopC_at {n : Nat} {zs ys : List P} {η : Et} {st : Sr} {K : PySem.W.Frag} {W : WX} {Z H : Hp} {φ : List Addr} {G : (Fl × Et × Sr) → Hp → List Addr → Hp → Prop} (h : Af K W Z φ H (loopC n zs g b ys η st) G) : st[n]? = some (.lst zs) := by
  cases ys with
  | nil =>
    unfold loopC at h
    split at h
    · assumption
    · exact h.elim
  | cons x ys =>
    unfold loopC at h
    split at h
    · assumption
    · exact h.elim
theorem LpC.turn {n : Nat} {ad : Addr} {zs : List P} {p : P} {ys : List P} {σ : St} {H : Hp} (h : LpC K W g b D n ad zs (p :: ys) σ H) {v : V} (hv : ∀ Z φ st, RS K Z φ st H → φ[n]? = some ad → st[n]? = some (.lst zs) → Rep K Z p v) :
    tG K g v σ H (fun σ2 H2 => tS K W b { D with nx := LpC K W g b D n ad zs ys, ct := LpC K W g b D n ad zs ys, bk := D.nx } σ2 H2) := by
  obtain ⟨Z, φ, η, st, rs, sl, hn, hs, af⟩ := h
  unfold loopC at af
  rw [if_pos hs] at af
  split at af
  · exact af.elim
  · rename_i η1 e1
    refine ⟨Z, φ, η, st, .fz p, rs, sl, hv Z φ st rs hn hs, η1, e1, fun σ2 sl2 => ⟨Z, φ, η1, st, rs, sl2, af.bind.mono fun r Z' φ' H' t g' rs' => ?_⟩⟩
    obtain ⟨fl, η2, st2⟩ := r
    obtain ⟨psi, rfl⟩ := t.app
    have hn' : (φ ++ psi)[n]? = some ad := by
      rw [List.getElem?_append_left (List.getElem?_eq_some_iff.mp hn).1]; exact hn
    cases fl with
    | nx => exact fun σ' sl' => ⟨Z', _, η2, st2, rs', sl', hn', loopC_at g', g'⟩
    | ct => exact fun σ' sl' => ⟨Z', _, η2, st2, rs', sl', hn', loopC_at g', g'⟩
    | bk => exact g' _ _ _ .refl rs'
    | rt d => exact g' _ _ _ .refl rs'
theorem LpC.done {n : Nat} {ad : Addr} {zs : List P} {σ : St} {H : Hp} (h : LpC K W g b D n ad zs [] σ H) : D.nx σ H := by
  obtain ⟨Z, φ, η, st, rs, sl, hn, hs, af⟩ := h
  unfold loopC at af
  rw [if_pos hs] at af
  exact af _ _ _ .refl rs _ sl
end
end M
end
section
set_option Elab.async false
set_option linter.all false
set_option maxRecDepth 100000
set_option maxHeartbeats 0
namespace M
open PySem L2 ClX
def getA (c f : Str) (K : PySem.W.Frag) : Addr := match PySem.W.findIn K (.ref (He.ga K c)) f with
  | some (some (.ref p)) => (match PySem.W.recIn K p "property" with
    | some (.ref g :: _) => g
    | _ => 0)
  | _ => 0
def propB (c f : Str) (K : PySem.W.Frag) : Bool := match PySem.W.findIn K (.ref (He.ga K c)) f with
  | some (some (.ref p)) => decide (PySem.W.specialIn K (.ref p) "__get__" = some (some (.builtin "property.__get__"))) && (decide (PySem.W.takesIn K (.ref p) = some true) && (match PySem.W.recIn K p "property" with
    | some (.ref _ :: _) => true
    | _ => false))
  | _ => false
theorem propB_ok {c f : Str} {K : PySem.W.Frag} (h : propB c f K = true) : ∃ p, PropOf K (He.ga K c) f p (getA c f K) := by
  unfold propB at h
  split at h
  · rename_i p e1
    simp only [Bool.and_eq_true, decide_eq_true_eq] at h
    obtain ⟨h1, h2, h3⟩ := h
    split at h3
    · rename_i g rest e2
      have eg : getA c f K = g := by unfold getA; rw [e1]; dsimp only; rw [e2]
      exact ⟨p, e1, h1, h2, ⟨rest, by rw [eg]; exact e2⟩⟩
    · cases h3
  · cases h
structure OkA (P : Program) (w : World) (K : PySem.W.Frag) (mg : Str → Option Value) (base : Heap) (k : Nat) (a : Addr) (ps : List Str) (F : DF) : Prop where
  ex : ∃ fd, FnOk P w K mg base (L2.CX P w) k a fd ps (spF K F) ∧ Binds K fd ps []
section
variable {P : Program} {w : World} {K : PySem.W.Frag} {mg : Str → Option Value} {base : Heap}
theorem okA_of {d : DefG} {k : Nat} {N ps : List Str} {np n : Nat} {fr : Bool} {b : DS} 
    (h : ∃ fd, FunD K d.name d.qual d.params d.body d.scope [] (d.kws K) (d.adr K) fd) (S : FnScope N ps d.scope) (hps : ps.length = np) (hN : N.length = n)
    (hb : ∀ (kV doc pm : Value) (an : Option Addr) (cdv ct : Value) (us : List Value), us.length = ps.length → bindArgs (PySem.W.fnOf d.name d.qual d.params d.body d.scope .none kV doc pm an cdv ct) ⟨us, []⟩ = pure (ps.zip us))
    (hbody : ∀ (f : Addr) (cdv : Value) (A : Around) (outer : List Env) (s : Shared) (H : Hp) (E : XK), Room k (cxOf (L2.CX P w) P w K mg base N d.qual d.scope f cdv A outer s H E).A →
      PassesOwn (model P w) (cxOf (L2.CX P w) P w K mg base N d.qual d.scope f cdv A outer s H E).A (cxOf (L2.CX P w) P w K mg base N d.qual d.scope f cdv A outer s H E).env (cxOf (L2.CX P w) P w K mg base N d.qual d.scope f cdv A outer s H E).xe →
      Takes (cxOf (L2.CX P w) P w K mg base N d.qual d.scope f cdv A outer s H E) (fun c d _ H => E c d H) →
      PSs (cxOf (L2.CX P w) P w K mg base N d.qual d.scope f cdv A outer s H E) d.body (tS K (fun c d _ H => E c d H) b)) :
    OkA P w K mg base (k + 1) (d.adr K) ps (runF np n fr b) := by
  obtain ⟨fd, F⟩ := h
  exact ⟨⟨fd, fn_D F S hps hN fun cdv A outer s H E hr hp tk => hbody _ cdv A outer s H E hr hp tk, F.bindsN hb⟩⟩
theorem propT_of {k j : Nat} {g c f : Str} {ps : List Str} {F : DF} (o : OkA P w K mg base j (getA g f K) ps F) (hc : Cls K (He.ga K c)) (hb : propB c f K = true) (he : getA c f K = getA g f K) (h : j ≤ k := by decide) : PropT P w K mg base k f ps c F := by
  obtain ⟨fd, h1, h2⟩ := o.ex
  obtain ⟨p, hp⟩ := propB_ok hb
  rw [he] at hp
  exact ⟨p, _, fd, hc, hp, fnOk_mono h1 h, h2⟩
theorem newT_of {k j : Nat} {g c : Str} {ps : List Str} {F : DF} (o : Okd P w K mg base j (g, some "__init__") ps F) (hm : Mk K (He.ga K c) (He.ma K (He.ga K c) "__init__")) (he : He.ma K (He.ga K c) "__init__" = He.ma K (He.ga K g) "__init__") (h : j ≤ k := by decide) : NewT P w K mg base k ps c F := by
  obtain ⟨fd, h1, h2⟩ := o.ex
  refine ⟨_, fd, hm, ?_, h2⟩
  rw [he]
  exact fnOk_mono h1 h
end
end M
end
section
set_option Elab.async false
set_option linter.all false
set_option maxRecDepth 100000
set_option maxHeartbeats 0
namespace M
open PySem L2 ClX
open PySem.W (Looks findIn clsIn looks_clsIn looks_findIn)
end M
end
section
set_option Elab.async false
set_option linter.all false
set_option maxRecDepth 100000
set_option maxHeartbeats 0
namespace M
open PySem L2
def setAll : Et → List Nat → List P → Et
  | η, i :: ts, p :: ps => setAll (η.set i (some (.fz p))) ts ps
  | η, _, _ => η
def setAllV : St → List Nat → List V → St
  | σ, i :: ts, v :: vs => setAllV (σ.set i (some v)) ts vs
  | σ, _, _ => σ
def setT (ts : List Nat) (η : Et) : P → Option Et
  | .tup ps => if ps.length = ts.length then some (setAll η ts ps) else none
  | _ => none
def lcT (ts : List Nat) (t : DT) (fe : DE) (η : Et) : List P → List P → Sr → R (List P × Sr)
  | [], acc, st => .ok (acc, st)
  | x :: xs, acc, st => match setT ts η x with
    | none => .stuck
    | some η1 => (t η1 st).bind fun a => if a.1 = true then (fe η1 a.2).bind fun b => match toP b.2 b.1 with
      | some (p, st2) => if acc.length < szL then lcT ts t fe η xs (acc ++ [p]) st2 else .stuck
      | none => .stuck
    else lcT ts t fe η xs acc a.2
def gsN : List Nat → TGs
  | [] => gNil
  | i :: ts => gCons (gName i) (gsN ts)
theorem gsN_of {Q : St → Hp → Prop} {H : Hp} : ∀ {ts : List Nat} {vs : List V} {σ : St}, vs.length = ts.length → Q (setAllV σ ts vs) H → gsN ts vs σ H Q
  | [], [], σ, _, q => ⟨rfl, q⟩
  | i :: ts, v :: vs, σ, hl, q => ⟨v, vs, rfl, gsN_of (ts := ts) (by simpa using hl) q⟩
  | [], v :: vs, σ, hl, q => by cases hl
  | i :: ts, [], σ, hl, q => by cases hl
theorem wipe_get {σ : St} {j : Nat} : ∀ {ts : List Nat}, (wipe σ ts)[j]? = if j ∈ ts then (σ[j]?).map (fun _ => none) else σ[j]?
  | [] => by simp [wipe]
  | i :: ts => by
    unfold wipe
    rw [List.getElem?_set, wipe_get (ts := ts), wipe_length]
    by_cases h : i = j
    · subst h
      rw [if_pos rfl, if_pos List.mem_cons_self]
      by_cases hl : i < σ.length
      · rw [if_pos hl, List.getElem?_eq_getElem hl]; rfl
      · rw [if_neg hl, List.getElem?_eq_none (by omega)]; rfl
    · rw [if_neg h]
      by_cases hj : j ∈ ts
      · rw [if_pos hj, if_pos (List.mem_cons_of_mem _ hj)]
      · rw [if_neg hj, if_neg (fun e => by rcases List.mem_cons.mp e with e | e; exact h e.symm; exact hj e)]
theorem wipe_idem {σ : St} {ts : List Nat} : wipe (wipe σ ts) ts = wipe σ ts := by
  apply List.ext_getElem?
  intro j
  rw [wipe_get, wipe_get]
  split
  · rw [Option.map_map]; rfl
  · rfl
theorem wipe_set {σ : St} {i : Nat} {x : Option V} {ts : List Nat} (h : i ∈ ts) : wipe (σ.set i x) ts = wipe σ ts := by
  apply List.ext_getElem?
  intro j
  rw [wipe_get, wipe_get]
  split
  · rename_i hj
    rw [List.getElem?_set]
    split
    · rename_i e; subst e
      split
      · rename_i hl; rw [List.getElem?_eq_getElem hl]; try rfl
      · rename_i hl; rw [List.getElem?_eq_none (by omega)]; try rfl
    · rfl
  · rename_i hj
    rw [List.getElem?_set_ne (by rintro rfl; exact hj h)]
theorem wipe_all {us : List Nat} : ∀ {ts : List Nat} {vs : List V} {σ : St}, (∀ i ∈ ts, i ∈ us) → wipe (setAllV σ ts vs) us = wipe σ us
  | [], vs, σ, _ => by cases vs <;> rfl
  | i :: ts, [], σ, _ => rfl
  | i :: ts, v :: vs, σ, h => by
    show wipe (setAllV (σ.set i (some v)) ts vs) us = _
    rw [wipe_all (ts := ts) fun j hj => h j (List.mem_cons_of_mem _ hj), wipe_set (h i List.mem_cons_self)]
section
variable {K : PySem.W.Frag} {Z H : Hp} {φ : List Addr}
/-- the slots but for some -/
structure SlotsX (K : PySem.W.Frag) (Z : Hp) (φ : List Addr) (us : List Nat) (η : Et) (σ : St) : Prop where
  len : η.length = σ.length
  at_ : ∀ (i : Nat) d, i ∉ us → η[i]? = some (some d) → ∃ v, σ[i]? = some (some v) ∧ RepD K Z φ d v
theorem Slots.wiped {η : Et} {σ : St} {us : List Nat} (h : Slots K Z φ η σ) : SlotsX K Z φ us η (wipe σ us) := ⟨by rw [wipe_length]; exact h.len, fun i d hi e => by
  obtain ⟨v, h1, h2⟩ := h.at_ i d e
  exact ⟨v, by rw [wipe_get, if_neg hi]; exact h1, h2⟩⟩
theorem SlotsX.set {i : Nat} {us : List Nat} {η : Et} {σ : St} {d : D} {v : V} (h : SlotsX K Z φ (i :: us) η σ) (r : RepD K Z φ d v) : SlotsX K Z φ us (η.set i (some d)) (σ.set i (some v)) := by
  refine ⟨by rw [List.length_set, List.length_set]; exact h.len, fun j e hj he => ?_⟩
  by_cases hij : i = j
  · subst hij
    by_cases hl : i < η.length
    · rw [List.getElem?_set_self hl] at he
      cases he
      exact ⟨v, by rw [List.getElem?_set_self (by rw [← h.len]; exact hl)], r⟩
    · rw [List.getElem?_eq_none (by simpa using hl)] at he; cases he
  · rw [List.getElem?_set_ne hij] at he
    obtain ⟨w, h1, h2⟩ := h.at_ j e (fun hm => by rcases List.mem_cons.mp hm with hm | hm; exact hij hm.symm; exact hj hm) he
    exact ⟨w, by rw [List.getElem?_set_ne hij]; exact h1, h2⟩
theorem SlotsX.all : ∀ {ts : List Nat} {ps : List P} {vs : List V} {η : Et} {σ : St}, SlotsX K Z φ ts η σ → ps.length = ts.length → Reps K Z ps vs → Slots K Z φ (setAll η ts ps) (setAllV σ ts vs)
  | [], ps, vs, η, σ, h, hl, r => by
    cases ps with
    | nil => rw [Reps] at r; subst r; exact ⟨h.len, fun i d e => h.at_ i d (by simp) e⟩
    | cons p ps => cases hl
  | i :: ts, [], vs, η, σ, h, hl, r => by cases hl
  | i :: ts, p :: ps, vs, η, σ, h, hl, r => by
    rw [Reps] at r
    obtain ⟨v, ws, rfl, r1, r2⟩ := r
    have h1 : Slots K Z φ (setAll (η.set i (some (.fz p))) ts ps) (setAllV (σ.set i (some v)) ts ws) := SlotsX.all (h.set (d := .fz p) r1) (by simpa using hl) r2
    exact h1
end
section
def LcK (K : PySem.W.Frag) (W : WX) (ts : List Nat) (t : DT) (fe : DE) (η : Et) (Q : VK) (σ : St) (Z0 : Hp) (φ0 : List Addr) (H0 : Hp) (p : Addr) (Ex : Hp → Prop) (ys : List P) (H : Hp) : Prop :=
  ∃ Z φ st acc, RS K Z φ st H ∧ Slots K Z φ η σ ∧ Ex Z ∧ Mk1 K Z φ H p acc ∧ Step Z0 φ0 H0 Z φ H ∧ Af K W Z0 φ0 H0 (lcZ (lcT ts t fe η ys acc st)) (GE K Q)
variable {K : PySem.W.Frag} {W : WX} {ts : List Nat} {t : DT} {fe : DE} {η : Et} {Q : VK} {σ : St} {Z0 H0 : Hp} {φ0 : List Addr} {p : Addr} {Ex : Hp → Prop}
theorem LcK.done {H : Hp} (h0 : H0 p = none) (h : LcK K W ts t fe η Q σ Z0 φ0 H0 p Ex [] H) : Q (.ref p) H := by
  obtain ⟨Z, φ, st, acc, rs, sl, ex, m, s, af⟩ := h
  exact LcJ.done (i := 0) (t := t) (fe := fe) (η := η) (Ex := Ex) h0 ⟨Z, φ, st, acc, rs, sl, ex, m, s, af⟩
theorem LcK.turn (h0 : H0 p = none) (hm : ∀ Z Z', Same Z Z' → Ex Z → Ex Z') {x : P} {ys : List P} {H : Hp} {v : V} (h : LcK K W ts t fe η Q σ Z0 φ0 H0 p Ex (x :: ys) H) (hv : ∀ Z, Same Z H → Ex Z → Rep K Z x v) :
    gTup K ts.length (gsN ts) v (wipe σ ts) H fun σ2 H2 => wipe σ2 ts = wipe σ ts ∧ tT K W0 t σ2 H2 (fun b H3 => if b = true then tE K W0 fe σ2 H3 (fun y H4 => ∃ acc, H4 p = some (.lst acc) ∧ acc.length < sizeLine ∧ LcK K W ts t fe η Q σ Z0 φ0 H0 p Ex ys (upd H4 p (.lst (acc ++ [y])))) else LcK K W ts t fe η Q σ Z0 φ0 H0 p Ex ys H3) := by
  obtain ⟨Z, φ, st, acc, rs, sl, ex, m, s, af⟩ := h
  obtain ⟨⟨acc', st'⟩, he⟩ := lcZ_some af
  have he0 := he
  unfold lcT at he
  cases e0 : setT ts η x with
  | none => rw [e0] at he; cases he
  | some η1 =>
  rw [e0] at he
  unfold setT at e0
  split at e0
  rotate_left
  · cases e0
  rename_i ps
  split at e0
  rotate_left
  · cases e0
  rename_i hpl
  cases e0
  have rx := hv Z rs.same ex
  rw [Rep] at rx
  obtain ⟨ad, vs, rfl, hsq, hrs⟩ := rx
  have hvl : vs.length = ts.length := by rw [← hrs.length]; exact hpl
  refine ⟨ad, vs, rfl, same_sqT rs.same hsq, hvl, gsN_of hvl ⟨by rw [wipe_all (fun _ h => h), wipe_idem], ?_⟩⟩
  have slv0 : Slots K Z φ (setAll η ts ps) (setAllV (wipe σ ts) ts vs) := (sl.wiped (us := ts)).all hpl hrs
  dsimp only at he
  generalize setAll η ts ps = η1 at he slv0
  generalize setAllV (wipe σ ts) ts vs = σ1 at slv0
  refine ⟨Z, φ, _, st, rs, slv0, ?_⟩
  cases e1 : t η1 st with
  | exc => rw [e1] at he; cases he
  | stuck => rw [e1] at he; cases he
  | ok a =>
    rw [e1] at he
    intro Z1 φ1 H1 s1 rs1
    have he1 : (if a.1 = true then (fe η1 a.2).bind fun b => match toP b.2 b.1 with
      | some (p, st2) => if acc.length < szL then lcT ts t fe η ys (acc ++ [p]) st2 else .stuck
      | none => .stuck
    else lcT ts t fe η ys acc a.2) = .ok (acc', st') := he
    have m1 := m.step s1
    by_cases ha : a.1 = true
    · rw [if_pos ha] at he1 ⊢
      refine ⟨Z1, φ1, _, a.2, rs1, slv0.mono s1, ?_⟩
      cases e2 : fe η1 a.2 with
      | exc => rw [e2] at he1; cases he1
      | stuck => rw [e2] at he1; cases he1
      | ok b =>
        rw [e2] at he1
        intro Z2 φ2 H2 s2 rs2 y ry
        have he2 : (match toP b.2 b.1 with
          | some (p, st2) => if acc.length < szL then lcT ts t fe η ys (acc ++ [p]) st2 else .stuck
          | none => .stuck) = .ok (acc', st') := he1
        have m2 := m1.step s2
        obtain ⟨ws, h1, h2⟩ := m2.at_
        cases e3 : toP b.2 b.1 with
        | none => rw [e3] at he2; cases he2
        | some pr =>
          obtain ⟨q, st3⟩ := pr
          rw [e3] at he2
          dsimp only at he2
          split at he2
          · rename_i hz
            obtain ⟨Z3, f3, rs3, r3⟩ := toP_ok rs2 e3 ry
            have m3 := m2.step f3.step
            obtain ⟨rs4, m4⟩ := m3.push rs3 h1 r3
            have s3 := ((s.trans s1).trans s2).trans f3.step
            refine ⟨ws, h1, by rw [← h2.length, ← szL_eq]; exact hz, Z3, φ2, st3, acc ++ [q], rs4, ((sl.mono s1).mono s2).mono f3.step, hm _ _ f3.hz (hm _ _ s2.hz (hm _ _ s1.hz ex)), m4, ?_, ?_⟩
            · refine ⟨s3.hz, s3.pre, fun b o hb hn ht => ?_, s3.zn, fun b hb => ?_, fun b q u hb => by rw [upd_ne (by rintro rfl; rw [h0] at hb; cases hb)]; exact s3.lk b q u hb⟩
              · rw [upd_ne]
                · exact s3.fr b o hb hn ht
                · rintro rfl
                  rw [h0] at hb; cases hb
              · by_cases q : b = p
                · subst q; exact .of h0
                · exact s3.up b fun o ho => hb o (by rw [upd_ne q]; exact ho)
            · rw [he2]; rw [he0] at af; exact af
          · cases he2
    · rw [if_neg ha] at he1 ⊢
      exact ⟨Z1, φ1, a.2, acc, rs1, sl.mono s1, hm _ _ s1.hz ex, m1, s.trans s1, by rw [he1]; rw [he0] at af; exact af⟩
end
end M
end
section
set_option Elab.async false
set_option linter.all false
set_option maxRecDepth 100000
set_option maxHeartbeats 0
namespace M
open PySem L2
def IsTrip (h : Heap) (v : Value) (x y : Int) : Prop := ∃ a o t u z n, v = .ref a ∧ h.get? a = some o ∧ o.cls = .type "tuple" ∧ o.data = .seq #[.int x t, .int y u, z] n
theorem IsTrip.keeps {h h' : Heap} {v : Value} {x y : Int} (p : IsTrip h v x y) (k : ∀ b o, h.get? b = some o → o.cls = .type "tuple" → h'.get? b = some o) : IsTrip h' v x y := by
  obtain ⟨a, o, t, u, z, n, e, ho, hc, hd⟩ := p
  exact ⟨a, o, t, u, z, n, e, k _ _ ho hc, hc, hd⟩
end M
end
section
set_option Elab.async false
set_option linter.all false
set_option maxRecDepth 100000
set_option maxHeartbeats 0
namespace M
open PySem L2
end M
end
section
set_option Elab.async false
set_option linter.all false
set_option maxRecDepth 100000
set_option maxHeartbeats 0
namespace M
open PySem PySem.Spec PyProof.Rows L2
end M
namespace M
open PySem L2
end M
end
section
set_option Elab.async false
set_option linter.all false
set_option maxRecDepth 100000
set_option maxHeartbeats 0
namespace M
open PySem L2
theorem fz_str {K : PySem.W.Frag} {Z : Hp} {φ : List Addr} {i : Str} {v : V} (h : RepD K Z φ (.fz (.str i)) v) : v = .str i := by
  have h : Rep K Z (.str i) v := h
  rw [Rep] at h
  exact h
def charsP (x : Str) : List P := x.cps.toList.map fun c => .str ⟨#[c]⟩
section
variable {X : Cx} {W : WX}
variable {i : Nat} {t : DT} {fe f : DE}
theorem charsP_at {x : Str} {j : Nat} {c : Nat} (h : x.cps[j]? = some c) : (charsP x)[j]? = some (.str ⟨#[c]⟩) := by
  unfold charsP
  rw [List.getElem?_map, Array.getElem?_toList, h]; rfl
theorem charsP_len (x : Str) : (charsP x).length = x.cps.size := by unfold charsP; simp
variable {iter elt : Expr} {ifs : List Expr} {scope : Scope} {tpos pos : Pos} {x : Str}
end
end M
end
section
set_option Elab.async false
set_option linter.all false
set_option maxRecDepth 100000
set_option maxHeartbeats 0
namespace M
open PySem L2 ClX
open PySem.W (Looks findIn clsIn looks_clsIn looks_findIn)
end M
end
section
set_option Elab.async false
set_option linter.all false
set_option maxRecDepth 100000
set_option maxHeartbeats 0
namespace M
open PySem L2
end M
end
section
set_option Elab.async false
set_option linter.all false
set_option maxRecDepth 100000
set_option maxHeartbeats 0
namespace M
open PySem L2
def frR (g : Addr → Option Obj) : List Addr → PySem.W.Frag
  | [] => []
  | a :: r => match g a with
    | some o => (match emptyTabB (some o) with
      | true => frR g r
      | false => (a, o) :: frR g r)
    | none => frR g r
theorem frR_mem {g : Addr → Option Obj} {a : Addr} {o : Obj} : ∀ {l : List Addr}, (a, o) ∈ frR g l → g a = some o
  | [], h => by cases h
  | b :: r, h => by
    unfold frR at h
    cases e : g b with
    | none => rw [e] at h; exact frR_mem h
    | some p =>
      rw [e] at h
      dsimp only at h
      split at h
      · exact frR_mem h
      · rcases List.mem_cons.mp h with q | q
        · cases q; exact e
        · exact frR_mem q
theorem look_mem {a : Addr} {o : Obj} : ∀ {K : PySem.W.Frag}, K.lookup a = some o → (a, o) ∈ K
  | [], h => by cases h
  | (b, p) :: K, h => by
    rw [List.lookup_cons] at h
    split at h
    · rename_i q
      cases h
      rw [beq_iff_eq.mp q]
      exact List.mem_cons_self
    · exact List.mem_cons_of_mem _ (look_mem h)
theorem frR_in {h : Heap} {l : List Addr} : PySem.W.Frag.In (frR h.get? l) h := fun a o e => frR_mem (look_mem e)
def upA : Nat → Nat → List Addr
  | 0, _ => []
  | k + 1, lo => lo :: upA k (lo + 1)
def asR (lo n : Nat) : List Addr := mainGlobals :: cStatics :: upA (n - lo) lo
def obsR (lo : Nat) (q : Wants) (g : Addr → Option Obj) (n : Nat) : AlM := obsM q (frR g (asR lo n)) g
def hookR (lo : Nat) (q : Wants) : PySem.W.Hook where
  α := AlM
  obs := fun s => obsR lo q s.heap.get? s.heap.objs.size
  val := fun _ => valM q
  says := fun _ h => ∃ K : PySem.W.Frag, SaysM q K h
  of := fun _ _ e => ⟨_, saysM_of frR_in e⟩
  keeps := fun _ _ _ ⟨K, c⟩ k => ⟨K, c.keeps k⟩
theorem obsR_eq {lo : Nat} {q : Wants} {g : Addr → Option Obj} {n : Nat} {s : Shared} (h : ∀ a, g a = s.heap.get? a) (hn : n = s.heap.objs.size) : obsR lo q g n = (hookR lo q).obs s := by
  have e : g = s.heap.get? := funext h
  rw [e, hn] <;> rfl
theorem map3b {α β γ δ : Type} {o : Option α} {f : α → β} {g : α → γ} {h : α → δ} {b : β} {c : γ} {d : δ} (h1 : o.map f = some b) (h3 : o.map g = some c) (h2 : o.map h = some d) : o.map (fun s => (f s, g s, h s)) = some (b, c, d) := by
  cases o with
  | none => cases h1
  | some s => cases h1; cases h2; cases h3; rfl
/-- the looks of the Hook, one by one -/
theorem obs_parts {α : Type} {q : Wants} {o : Option α} {K : α → PySem.W.Frag} {g : α → Addr → Option Obj} (h1 : o.map (fun s => q.fa.all fun f => f.ok (K s)) = some true) (h2 : o.map (fun s => q.fn.all fun d => d.ok (K s)) = some true)
    (h3 : o.map (fun s => q.fn.map fun d => He.fnW (K s) d.at_) = some (q.fn.map He.DefD.val)) (h4 : o.map (fun s => q.ck.all fun c => c.ok (K s)) = some true)
    (h5 : o.map (fun s => (q.cf.all (fun d => d.ok (K s) q.file), tabsB (K s) (g s), (q.cf.map fun d => fnC (K s) d.at_), q.gf.all (fun d => d.ok (K s)), q.gf.map fun d => fnG (K s) (d.adr (K s)))) = some (true, true, q.cf.map DefC.val, true, q.gf.map DefG.val)) :
    o.map (fun s => obsM q (K s) (g s)) = some (valM q) := by
  cases o with
  | none => cases h1
  | some s =>
    have e1 := Option.some.inj h1
    have e2 := Option.some.inj h2
    have e3 := Option.some.inj h3
    have e4 := Option.some.inj h4
    dsimp only at e1 e2 e3 e4
    have e5 := Option.some.inj h5
    obtain ⟨e5, e6⟩ := Prod.mk.inj e5
    obtain ⟨e6, e7⟩ := Prod.mk.inj e6
    obtain ⟨e7, e8⟩ := Prod.mk.inj e7
    obtain ⟨e8, e9⟩ := Prod.mk.inj e8
    show some (obsM q (K s) (g s)) = _
    unfold obsM valM He.obsD He.valD
    rw [e1, e2, e3, e4, e5, e6, e7, e8, e9]
    rfl
end M
end
section
set_option Elab.async false
set_option linter.all false
set_option maxRecDepth 100000
set_option maxHeartbeats 0
namespace M
open PySem L2
abbrev I3 : Type := Int × Int × Int
def IsTri (h : Heap) (v : Value) (x y z : Int) : Prop := ∃ a o t u w n, v = .ref a ∧ h.get? a = some o ∧ o.cls = .type "tuple" ∧ o.data = .seq #[.int x t, .int y u, .int z w] n
theorem IsTri.keeps {h h' : Heap} {v : Value} {x y z : Int} (p : IsTri h v x y z) (k : ∀ b o, h.get? b = some o → o.cls = .type "tuple" → h'.get? b = some o) : IsTri h' v x y z := by
  obtain ⟨a, o, t, u, w, n, e, ho, hc, hd⟩ := p
  exact ⟨a, o, t, u, w, n, e, k _ _ ho hc, hc, hd⟩
end M
end
section
set_option Elab.async false
set_option linter.all false
set_option maxRecDepth 100000
set_option maxHeartbeats 0
namespace M
open PySem L2
section
variable {K : PySem.W.Frag} {Z Z' H : Hp} {φ : List Addr}
theorem RepDs.append : ∀ {ds es : List D} {vs ws : List V}, RepDs K Z φ ds vs → RepDs K Z φ es ws → RepDs K Z φ (ds ++ es) (vs ++ ws)
  | [], es, vs, ws, h, g => by cases (show vs = [] from h); exact g
  | d :: ds, es, vs, ws, h, g => by
    obtain ⟨v, us, rfl, h1, h2⟩ := h
    exact ⟨v, us ++ ws, rfl, h1, RepDs.append h2 g⟩
theorem RepDs.get : ∀ {ds : List D} {vs : List V} {i : Nat} {d : D}, RepDs K Z φ ds vs → ds[i]? = some d → ∃ v, vs[i]? = some v ∧ RepD K Z φ d v
  | [], vs, i, d, h, e => by simp at e
  | x :: ds, vs, 0, d, h, e => by
    obtain ⟨v, ws, rfl, h1, h2⟩ := h
    cases e
    exact ⟨v, rfl, h1⟩
  | x :: ds, vs, i + 1, d, h, e => by
    obtain ⟨v, ws, rfl, h1, h2⟩ := h
    have := RepDs.get (i := i) (d := d) h2 (by simpa using e)
    simpa using this
theorem RepDs.atI {ds : List D} {vs : List V} {i : Int} {d : D} (h : RepDs K Z φ ds vs) (e : L2.atI ds i = some d) : ∃ v, L2.atI vs i = some v ∧ RepD K Z φ d v := by
  unfold L2.atI at e ⊢
  rw [← h.length]
  cases q : ixN ds.length i with
  | none => rw [q] at e; cases e
  | some j => rw [q] at e; exact h.get e
end
end M
end
section
set_option Elab.async false
set_option linter.all false
set_option maxRecDepth 100000
set_option maxHeartbeats 0
namespace M
open PySem L2
end M
end
section
set_option Elab.async false
set_option linter.all false
set_option maxRecDepth 100000
set_option maxHeartbeats 0
namespace M
open PySem L2
end M
end
section
set_option Elab.async false
set_option linter.all false
set_option maxRecDepth 100000
set_option maxHeartbeats 0
namespace M
open PySem L2
end M
end
section
set_option Elab.async false
set_option linter.all false
set_option maxRecDepth 100000
set_option maxHeartbeats 0
namespace M
open PySem L2
abbrev DI := Et → Sr → R (List P × Sr)
def lc2D (b : P → Et → Option Et) (i1 : Nat) (src : DI) (t1 : DT) (fe : DE) (η : Et) : List P → List P → Sr → R (List P × Sr)
  | [], acc, st => .ok (acc, st)
  | x :: xs, acc, st => match b x (η.set i1 none) with
    | none => .stuck
    | some η1 => (src η1 st).bind fun a => (lcD i1 t1 fe η1 a.1 acc a.2).bind fun c => lc2D b i1 src t1 fe η xs c.1 c.2
structure ItOk (K : PySem.W.Frag) (J : It) (ys : List P) (Ex : Hp → Prop) : Prop where
  mono : ∀ Z Z', Same Z Z' → Ex Z → Ex Z'
  run : ∀ (Pv : Nat → Hp → Prop) (H0 : Hp) (End : Hp → Prop) (Body : V → Hp → (Hp → Prop) → Prop), Pv 0 H0 → (∀ i H, i ≤ ys.length → Pv i H → ∃ Z, Same Z H ∧ Ex Z) →
    (∀ i y v H, ys[i]? = some y → (∀ Z, Same Z H → Ex Z → Rep K Z y v) → Pv i H → Body v H (Pv (i + 1))) → (∀ H, Pv ys.length H → End H) →
    ∃ W : Nat → Nat → Hp → Prop, (∃ m, W 0 m H0) ∧ ∀ i m H, W i m H → (J.stop i H ∧ End H) ∨ (J.go i H ∧ ∃ Nx : Hp → Prop, (∀ H', Nx H' → ∃ m', m' < m ∧ W (i + 1) m' H') ∧ ∀ x H', J.yld i H x H' → Body x H' Nx)
section
variable {K : PySem.W.Frag}
structure TgB (K : PySem.W.Frag) (vs : List Nat) (i1 : Nat) (b : P → Et → Option Et) (g : TG) : Prop where
  run : ∀ {Z H : Hp} {φ : List Addr} {η η1 : Et} {σ : St} {x : P} {v : V} {Q : St → Hp → Prop}, Same Z H → Rep K Z x v → Slots K Z φ η σ → b x (η.set i1 none) = some η1 → (∀ σ1, wipe σ1 vs = wipe σ vs → Slots K Z φ η1 σ1 → Q σ1 H) → g v (wipe σ vs) H Q
theorem SlotsX.nil {Z : Hp} {φ : List Addr} {η : Et} {σ : St} (h : SlotsX K Z φ [] η σ) : Slots K Z φ η σ := ⟨h.len, fun i d e => h.at_ i d (by simp) e⟩
structure SrcOk (K : PySem.W.Frag) (src : DI) (wi : TI) : Prop where
  run : ∀ {Z H : Hp} {φ : List Addr} {η : Et} {σ : St} {st st' : Sr} {ys : List P} {R : It → Hp → Prop}, RS K Z φ st H → Slots K Z φ η σ → src η st = .ok (ys, st') → (∀ Z1 φ1 H1 J Ex, Step Z φ H Z1 φ1 H1 → RS K Z1 φ1 st' H1 → Ex Z1 → ItOk K J ys Ex → R J H1) → wi σ H R
end
section
def LcO (K : PySem.W.Frag) (W : WX) (b : P → Et → Option Et) (i1 : Nat) (src : DI) (t1 : DT) (fe : DE) (η : Et) (Q : VK) (σ : St) (Z0 : Hp) (φ0 : List Addr) (H0 : Hp) (p : Addr) (Ex : Hp → Prop) (xs : List P) (H : Hp) : Prop :=
  ∃ Z φ st acc, RS K Z φ st H ∧ Slots K Z φ η σ ∧ Ex Z ∧ Mk1 K Z φ H p acc ∧ Step Z0 φ0 H0 Z φ H ∧ Af K W Z0 φ0 H0 (lcZ (lc2D b i1 src t1 fe η xs acc st)) (GE K Q)
def LcQ (K : PySem.W.Frag) (W : WX) (i : Nat) (t : DT) (fe : DE) (η η1 : Et) (k : List P → Sr → R (List P × Sr)) (Q : VK) (σ σ1 : St) (Z0 : Hp) (φ0 : List Addr) (H0 : Hp) (p : Addr) (Ex : Hp → Prop) (ys : List P) (H : Hp) : Prop :=
  ∃ Z φ st acc, RS K Z φ st H ∧ Slots K Z φ η σ ∧ Slots K Z φ η1 σ1 ∧ Ex Z ∧ Mk1 K Z φ H p acc ∧ Step Z0 φ0 H0 Z φ H ∧ Af K W Z0 φ0 H0 (lcZ ((lcD i t fe η1 ys acc st).bind fun c => k c.1 c.2)) (GE K Q)
variable {K : PySem.W.Frag} {W : WX} {i : Nat} {t : DT} {fe : DE} {η η1 : Et} {k : List P → Sr → R (List P × Sr)} {Q : VK} {σ σ1 : St} {Z0 H0 : Hp} {φ0 : List Addr} {p : Addr} {Ex : Hp → Prop}
theorem LcQ.turn (h0 : H0 p = none) (hm : ∀ Z Z', Same Z Z' → Ex Z → Ex Z') {x : P} {ys : List P} {H : Hp} {v : V} (h : LcQ K W i t fe η η1 k Q σ σ1 Z0 φ0 H0 p Ex (x :: ys) H) (hv : ∀ Z, Same Z H → Ex Z → Rep K Z x v) :
    tT K W0 t (σ1.set i (some v)) H (fun b H3 => if b = true then tE K W0 fe (σ1.set i (some v)) H3 (fun y H4 => ∃ acc, H4 p = some (.lst acc) ∧ acc.length < sizeLine ∧ LcQ K W i t fe η η1 k Q σ σ1 Z0 φ0 H0 p Ex ys (upd H4 p (.lst (acc ++ [y])))) else LcQ K W i t fe η η1 k Q σ σ1 Z0 φ0 H0 p Ex ys H3) := by
  obtain ⟨Z, φ, st, acc, rs, sl, sl1, ex, m, s, af⟩ := h
  have slv : Slots K Z φ (η1.set i (some (.fz x))) (σ1.set i (some v)) := sl1.set (hv Z rs.same ex)
  refine ⟨Z, φ, _, st, rs, slv, ?_⟩
  obtain ⟨⟨acc', st'⟩, he⟩ := lcZ_some af
  have he0 := he
  unfold lcD at he
  cases e1 : t (η1.set i (some (.fz x))) st with
  | exc => rw [e1] at he; cases he
  | stuck => rw [e1] at he; cases he
  | ok a =>
    rw [e1] at he
    intro Z1 φ1 H1 s1 rs1
    have he1 : ((if a.1 = true then (fe (η1.set i (some (.fz x))) a.2).bind fun b => match toP b.2 b.1 with
      | some (p, st2) => if acc.length < szL then lcD i t fe η1 ys (acc ++ [p]) st2 else .stuck
      | none => .stuck
    else lcD i t fe η1 ys acc a.2).bind fun c => k c.1 c.2) = .ok (acc', st') := he
    have m1 := m.step s1
    by_cases ha : a.1 = true
    · rw [if_pos ha] at he1 ⊢
      refine ⟨Z1, φ1, _, a.2, rs1, slv.mono s1, ?_⟩
      cases e2 : fe (η1.set i (some (.fz x))) a.2 with
      | exc => rw [e2] at he1; cases he1
      | stuck => rw [e2] at he1; cases he1
      | ok b =>
        rw [e2] at he1
        intro Z2 φ2 H2 s2 rs2 y ry
        have he2 : ((match toP b.2 b.1 with
          | some (p, st2) => if acc.length < szL then lcD i t fe η1 ys (acc ++ [p]) st2 else .stuck
          | none => .stuck).bind fun c => k c.1 c.2) = .ok (acc', st') := he1
        have m2 := m1.step s2
        obtain ⟨vs, h1, h2⟩ := m2.at_
        cases e3 : toP b.2 b.1 with
        | none => rw [e3] at he2; cases he2
        | some pr =>
          obtain ⟨q, st3⟩ := pr
          rw [e3] at he2
          dsimp only at he2
          split at he2
          · rename_i hz
            obtain ⟨Z3, f3, rs3, r3⟩ := toP_ok rs2 e3 ry
            have m3 := m2.step f3.step
            obtain ⟨rs4, m4⟩ := m3.push rs3 h1 r3
            have s3 := ((s.trans s1).trans s2).trans f3.step
            refine ⟨vs, h1, by rw [← h2.length, ← szL_eq]; exact hz, Z3, φ2, st3, acc ++ [q], rs4, ((sl.mono s1).mono s2).mono f3.step, ((sl1.mono s1).mono s2).mono f3.step, hm _ _ f3.hz (hm _ _ s2.hz (hm _ _ s1.hz ex)), m4, ?_, ?_⟩
            · refine ⟨s3.hz, s3.pre, fun b o hb hn ht => ?_, s3.zn, fun b hb => ?_, fun b q u hb => by rw [upd_ne (by rintro rfl; rw [h0] at hb; cases hb)]; exact s3.lk b q u hb⟩
              · rw [upd_ne]
                · exact s3.fr b o hb hn ht
                · rintro rfl
                  rw [h0] at hb; cases hb
              · by_cases q : b = p
                · subst q; exact .of h0
                · exact s3.up b fun o ho => hb o (by rw [upd_ne q]; exact ho)
            · rw [he2]; rw [he0] at af; exact af
          · cases he2
    · rw [if_neg ha] at he1 ⊢
      exact ⟨Z1, φ1, a.2, acc, rs1, sl.mono s1, sl1.mono s1, hm _ _ s1.hz ex, m1, s.trans s1, by rw [he1]; rw [he0] at af; exact af⟩
variable {b : P → Et → Option Et} {i1 : Nat} {src : DI} {t1 : DT} {vs : List Nat} {g : TG} {wi : TI}
theorem LcO.turn (tg : TgB K vs i1 b g) (so : SrcOk K src wi) (h0 : H0 p = none) (hm : ∀ Z Z', Same Z Z' → Ex Z → Ex Z') {x : P} {xs : List P} {H : Hp} {v : V} (h : LcO K W b i1 src t1 fe η Q σ Z0 φ0 H0 p Ex (x :: xs) H) (hv : ∀ Z, Same Z H → Ex Z → Rep K Z x v) :
    g v (wipe σ vs) H fun σ2 H2 => wipe σ2 vs = wipe σ vs ∧ tT K W0 dYes σ2 H2 fun c H3 => if c = true then wi σ2 H3 (fun J1 H4 => ∃ W1 : Nat → Nat → Hp → Prop, (∃ m, W1 0 m H4) ∧ ∀ j k H, W1 j k H →
      (J1.stop j H ∧ LcO K W b i1 src t1 fe η Q σ Z0 φ0 H0 p Ex xs H) ∨ (J1.go j H ∧ ∃ Nx1 : Hp → Prop, (∀ H', Nx1 H' → ∃ k', k' < k ∧ W1 (j + 1) k' H') ∧ ∀ x H', J1.yld j H x H' → gName i1 x (wipe σ2 [i1]) H' fun σ3 H5 => wipe σ3 [i1] = wipe σ2 [i1] ∧ tT K W0 t1 σ3 H5 fun c H6 =>
        if c = true then tE K W0 fe σ3 H6 (fun y H7 => ∃ acc, H7 p = some (.lst acc) ∧ acc.length < sizeLine ∧ Nx1 (upd H7 p (.lst (acc ++ [y])))) else Nx1 H6))
    else LcO K W b i1 src t1 fe η Q σ Z0 φ0 H0 p Ex xs H3 := by
  obtain ⟨Z, φ, st, acc, rs, sl, ex, m, s, af⟩ := h
  obtain ⟨⟨acc', st'⟩, he⟩ := lcZ_some af
  have hu : lc2D b i1 src t1 fe η (x :: xs) acc st = (match b x (η.set i1 none) with
    | none => R.stuck
    | some η1 => (src η1 st).bind fun a => (lcD i1 t1 fe η1 a.1 acc a.2).bind fun c => lc2D b i1 src t1 fe η xs c.1 c.2) := rfl
  cases e0 : b x (η.set i1 none) with
  | none => rw [hu, e0] at he; cases he
  | some η1 =>
    rw [e0] at hu
    cases e1 : src η1 st with
    | exc => rw [hu] at he; dsimp only at he; rw [e1] at he; cases he
    | stuck => rw [hu] at he; dsimp only at he; rw [e1] at he; cases he
    | ok a =>
      dsimp only at hu
      rw [e1] at hu
      have hu : lc2D b i1 src t1 fe η (x :: xs) acc st = (lcD i1 t1 fe η1 a.1 acc a.2).bind fun c => lc2D b i1 src t1 fe η xs c.1 c.2 := hu
      rw [hu] at af
      refine tg.run rs.same (hv Z rs.same ex) sl e0 fun σ1 hw sl1 => ⟨hw, Z, φ, η1, st, rs, sl1, ?_⟩
      intro Z1 φ1 H1 s1 rs1
      show if true = true then _ else _
      rw [if_pos rfl]
      refine so.run rs1 (sl1.mono s1) e1 fun Z2 φ2 H2 J Ex1 s2 rs2 ex1 it => ?_
      refine it.run (fun j H => LcQ K W i1 t1 fe η η1 (fun acc st => lc2D b i1 src t1 fe η xs acc st) Q σ σ1 Z0 φ0 H0 p (fun Z => Ex Z ∧ Ex1 Z) (a.1.drop j) H) H2 _ (fun v H Nx1 => gName i1 v (wipe σ1 [i1]) H fun σ3 H5 => wipe σ3 [i1] = wipe σ1 [i1] ∧ tT K W0 t1 σ3 H5 fun c H6 =>
        if c = true then tE K W0 fe σ3 H6 (fun y H7 => ∃ acc, H7 p = some (.lst acc) ∧ acc.length < sizeLine ∧ Nx1 (upd H7 p (.lst (acc ++ [y])))) else Nx1 H6) ?_ (fun j H _ hq => ?_) (fun j y v H hy hr hq => ?_) (fun H hq => ?_)
      · rw [List.drop_zero]
        exact ⟨Z2, φ2, a.2, acc, rs2, (sl.mono s1).mono s2, (sl1.mono s1).mono s2, ⟨hm _ _ s2.hz (hm _ _ s1.hz ex), ex1⟩, (m.step s1).step s2, (s.trans s1).trans s2, af⟩
      · obtain ⟨Z3, _, _, _, rs3, _, _, ⟨_, ex3⟩, _⟩ := hq
        exact ⟨Z3, rs3.same, ex3⟩
      · have hl : j < a.1.length := (List.getElem?_eq_some_iff.mp hy).1
        have ey : a.1[j] = y := by rw [List.getElem?_eq_getElem hl] at hy; exact Option.some.inj hy
        rw [drop_cons (List.getElem?_eq_getElem hl), ey] at hq
        refine ⟨wipe1 _ _ _, ?_⟩
        rw [wipe1s]
        exact hq.turn h0 (fun Z Z' s ⟨q1, q2⟩ => ⟨hm _ _ s q1, it.mono _ _ s q2⟩) fun Z hs ⟨_, q2⟩ => hr Z hs q2
      · rw [List.drop_length] at hq
        obtain ⟨Z3, φ3, st3, acc3, rs3, sl3, _, ⟨ex3, _⟩, m3, s3, af3⟩ := hq
        exact ⟨Z3, φ3, st3, acc3, rs3, sl3, ex3, m3, s3, af3⟩
theorem LcO.done {H : Hp} (h0 : H0 p = none) (h : LcO K W b i1 src t1 fe η Q σ Z0 φ0 H0 p Ex [] H) : Q (.ref p) H := by
  obtain ⟨Z, φ, st, acc, rs, sl, ex, m, s, af⟩ := h
  exact LcJ.done (i := 0) (t := dYes) (fe := fe) (η := η) (Ex := Ex) h0 ⟨Z, φ, st, acc, rs, sl, ex, m, s, af⟩
end
end M
end
section
set_option Elab.async false
set_option linter.all false
set_option maxRecDepth 100000
set_option maxHeartbeats 0
namespace M
open PySem PySem.Spec PyProof.Rows L2
end M
end
section
set_option Elab.async false
set_option linter.all false
set_option maxRecDepth 100000
set_option maxHeartbeats 0
namespace M
open PySem L2
end M
end
section
set_option Elab.async false
set_option linter.all false
set_option maxRecDepth 100000
set_option maxHeartbeats 0
namespace M
open PySem L2
end M
end
section
set_option Elab.async false
set_option linter.all false
set_option maxRecDepth 100000
set_option maxHeartbeats 0
namespace M
open PySem PySem.Spec PyProof.Rows L2
section
variable {X : Cx} {W : WX}
theorem lst_of {Z H : Hp} {φ : List Addr} {st : Sr} {K : PySem.W.Frag} {d : D} {v : V} {ps : List P} (rs : RS K Z φ st H) (rd : RepD K Z φ d v) (e1 : (peek st d).bind lstP' = some ps) : ∃ la vs, v = .ref la ∧ SqL K H la vs ∧ Reps K Z ps vs := by
  obtain ⟨pd, e6, e7⟩ := Option.bind_eq_some_iff.mp e1
  have pk := peek_pk rs e6 rd
  cases pd with
  | lst ys => cases e7; obtain ⟨a, vs, h1, h2, h3⟩ := pk; exact ⟨a, vs, h1, SqL.of h2, h3⟩
  | rol ys => cases e7; obtain ⟨a, vs, h1, h2, h3⟩ := pk; exact ⟨a, vs, h1, h2, h3⟩
  | _ => cases e7
end
end M
end
section
set_option Elab.async false
set_option linter.all false
set_option maxRecDepth 100000
set_option maxHeartbeats 0
namespace M
open PySem PySem.Spec PyProof.Rows L2
end M
end
section
set_option Elab.async false
set_option linter.all false
set_option maxRecDepth 100000
set_option maxHeartbeats 0
namespace M
open PySem L2
end M
end
section
set_option Elab.async false
set_option linter.all false
set_option maxRecDepth 100000
set_option maxHeartbeats 0
namespace M
open PySem L2
def keyD (k : Key) : P := match k with
  | .inl i => .int i
  | .inr s => .str s
/-- a dict that is read: a cell's, frozen, locked -/
def dctOf (st : Sr) (d : D) : Option (List (Key × P)) := match peek st d with
  | some (.dct kvs) => some kvs
  | some _ => none
  | none => match d with
    | .cell n => (match st[n]? with
      | some (.ldct kvs) => some kvs
      | _ => none)
    | _ => none
def dIxKO (d e : D) (st : Sr) : R (D × Sr) := match dctOf st d, (peek st e).bind keyP with
  | some kvs, some k => (match getK k kvs with
    | some q => .ok (.fz q, st)
    | none => .stuck)
  | _, _ => .stuck
/-- o.get(k, x) -/
def dGet2 (fo fk fx : DE) : DE := fun η st => (fo η st).bind fun o => match dctOf o.2 o.1 with
  | none => .stuck
  | some _ => (fk η o.2).bind fun k => (fx η k.2).bind fun x => match dctOf x.2 o.1, (peek x.2 k.1).bind keyP with
    | some kvs, some k => (match getK k kvs with
      | some q => .ok (.fz q, x.2)
      | none => .ok x)
    | _, _ => .stuck
def keepE (n : Nat) (b : D × Sr) : R (D × Sr) := match b.1 with
  | .fz .non => .ok (.cell n, b.2)
  | _ => .stuck
def dNewC (c : Str) (F : DF) (g : DA) : DE := fun η st => (g η st).bind fun a => (callF F (.cell a.2.length :: a.1) η (a.2 ++ [.obj c []])).bind fun b => keepE a.2.length b
section
variable {K : PySem.W.Frag} {Z H : Hp} {φ : List Addr} {st : Sr}
theorem dctOf_ok {d : D} {kvs : List (Key × P)} {v : V} (rs : RS K Z φ st H) (e : dctOf st d = some kvs) (r : RepD K Z φ d v) : ∃ a kws, v = .ref a ∧ Rd H a (.dK kws) ∧ RepK K Z kvs kws := by
  unfold dctOf at e
  split at e
  · rename_i ks ep
    cases e
    have pk := peek_pk rs ep r
    obtain ⟨a, kws, h1, h2, h3⟩ := pk
    exact ⟨a, kws, h1, .inl h2, h3⟩
  · cases e
  · split at e
    · rename_i n ep
      obtain ⟨a, ha, rfl⟩ := r
      split at e
      · rename_i ks ec
        cases e
        obtain ⟨_, o, kws, h1, h2⟩ := rs.cells n a _ ha ec
        exact ⟨a, kws, rfl, .inr ⟨o, h1⟩, h2⟩
      · cases e
    · cases e
theorem getK_none {k : Key} : ∀ {kvs : List (Key × P)} {kws : List (Key × V)}, RepK K Z kvs kws → getK k kvs = none → valV kws k = none
  | [], kws, h, e => by rw [RepK] at h; subst h; rfl
  | (j, p) :: r, kws, h, e => by
    rw [RepK] at h
    obtain ⟨v, ws, rfl, h1, h2⟩ := h
    unfold getK at e
    split at e
    · cases e
    · rename_i ej
      have : valV ((j, v) :: ws) k = valV ws k := by unfold valV; rw [List.find?_cons]; simp [ej]
      rw [this]; exact getK_none h2 e
theorem keys_rep : ∀ {kvs : List (Key × P)} {kws : List (Key × V)}, RepK K Z kvs kws → Reps K Z (kvs.map fun kv => keyD kv.1) (kws.map fun kv => kV kv.1)
  | [], kws, h => by rw [RepK] at h; subst h; exact .nil
  | (k, p) :: r, kws, h => by
    rw [RepK] at h
    obtain ⟨v, ws, rfl, h1, h2⟩ := h
    refine .cons ?_ (keys_rep h2)
    cases k <;> (show Rep K Z _ _; unfold keyD; rw [Rep]; rfl)
end
section
variable {X : Cx} {W : WX} {o e f : Expr} {fo fk fx : DE} {apos cpos : Pos}
theorem de_get2 (hu : X.A.units + 1 < cLine) (ho : PE X o (tE X.K W fo)) (he : PE X e (tE X.K W fk)) (hf : PE X f (tE X.K W fx)) (m : M2 X o "get" apos e f cpos) : PE X (.Call (.Attribute o "get" apos) [e, f] [] cpos) (tE X.K W (dGet2 fo fk fx)) := by
  refine (pe_dget2 hu ho he hf m).to fun σ H Q hh => ?_
  obtain ⟨Z, φ, η, st, rs, sl, af⟩ := hh
  refine ⟨Z, φ, η, st, rs, sl, af.bind.mono fun a Z' φ' H' t g' rs' v r => ?_⟩
  split at g'
  · exact g'.elim
  rename_i kv0 e0
  obtain ⟨ad, kw0, rfl, h0, q0⟩ := dctOf_ok rs' e0 r
  refine ⟨ad, rfl, .inl ⟨_, h0⟩, Z', φ', η, a.2, rs', sl.mono t, g'.bind.mono fun b Z2 φ2 H2 t2 g2 rs2 u r2 => ?_⟩
  refine ⟨Z2, φ2, η, b.2, rs2, (sl.mono t).mono t2, g2.bind.mono fun c Z3 φ3 H3 t3 g3 rs3 w r3 => ?_⟩
  have ro := (r.mono t2.hz t2.app).mono t3.hz t3.app
  split at g3
  · rename_i kvs k e1 e2
    obtain ⟨ad2, kws, eo, hH, hR⟩ := dctOf_ok rs3 e1 ro
    cases eo
    obtain ⟨pi, e6, e7⟩ := Option.bind_eq_some_iff.mp e2
    have hk := keyP_rep ((peek_pk rs3 e6 (r2.mono t3.hz t3.app)).rp rs3.same) e7
    subst hk
    refine ⟨valV kws k, .inl ⟨kws, k, hH, rfl, rfl⟩, ?_⟩
    split at g3
    · rename_i q eq
      obtain ⟨v, hv, hr⟩ := getK_ok hR eq
      rw [hv]
      exact g3.here rs3 (show RepD X.K Z3 φ3 (.fz q) v from hr)
    · rename_i eq
      rw [getK_none hR eq]
      exact g3.here rs3 r3
  · exact g3.elim
theorem de_ixK {i : Expr} {pos : Pos} {fi : DE} (hu : X.A.units + 1 < cLine) (ho : PE X o (tE X.K W fo)) (hi : PE X i (tE X.K W fi)) (hs : NoSl i := by intro _ _; rfl) : PE X (.Subscript o i pos) (tE X.K W (dBin dIxKO fo fi)) := by
  refine (pe_dget hu ho hi hs).to fun σ H Q hh => ?_
  obtain ⟨Z, φ, η, st, rs, sl, af⟩ := hh
  refine ⟨Z, φ, η, st, rs, sl, af.bind.mono fun a Z' φ' H' t g' rs' v r => ?_⟩
  refine ⟨Z', φ', η, a.2, rs', sl.mono t, g'.bind.mono fun b Z2 φ2 H2 t2 g2 rs2 u r2 => ?_⟩
  unfold dIxKO at g2
  split at g2
  · rename_i kvs k e1 e2
    obtain ⟨ad, kws, rfl, hH, hR⟩ := dctOf_ok rs2 e1 (r.mono t2.hz t2.app)
    obtain ⟨pi, e6, e7⟩ := Option.bind_eq_some_iff.mp e2
    have hk := keyP_rep ((peek_pk rs2 e6 r2).rp rs2.same) e7
    subst hk
    split at g2
    · rename_i q eq
      obtain ⟨w, hv, hr⟩ := getK_ok hR eq
      exact ⟨ad, w, rfl, .inl ⟨kws, k, hH, rfl, hv.symm⟩, g2.here rs2 (show RepD X.K Z2 φ2 (.fz q) w from hr)⟩
    · exact g2.elim
  · exact g2.elim
end
section
variable {X : Cx} {W : WX} {x c : Str} {p pos : Pos} {e : Expr} {es : List Expr} {fs : DA} {k j : Nat} {ps : List Str} {F : DF}
theorem de_newC0 (tk : Takes X W) (hN : NewT X.prog X.w X.K X.mg X.base k ps c F) (hr : Room j X.A) (hm : X.mg x = some (.ref (He.ga X.K c))) (hk : k + 1 ≤ j := by decide) (hg : Gl X x := by rfl)
    (hdb : (x == ("__debug__" : Str)) = false := by decide) : PE X (.Call (.Name x p) [] [] pos) (tE X.K W (dNewC c F dNil)) := by
  obtain ⟨f2, fd, M0, F0, hb⟩ := hN
  refine ⟨fun pins s σ H Q I h => ?_⟩
  obtain ⟨Z, φ, η, st, rs, sl, af⟩ := h
  refine wpAny_Call_Name_kw (ld_glob I hg hm ?_ hdb)
  have af1 : Af X.K W Z φ H ((callF F (.cell st.length :: []) η (st ++ [.obj c []])).bind fun b => keepE st.length b) (GE X.K Q) := af
  refine PySem.W.callWith_K0 I.kIn M0.kp ?_
  have hx0 : H (s.heap.objs.size + 1) = none := I.hok.fresh (Nat.le_succ _)
  have hd0 : H s.heap.objs.size = none := I.hok.fresh (Nat.le_refl _)
  have hne : s.heap.objs.size ≠ s.heap.objs.size + 1 := Nat.ne_of_lt (Nat.lt_succ_self _)
  obtain ⟨rsA, sA⟩ := rs.more (o := .own (s.heap.objs.size + 1)) hd0
  obtain ⟨rsB, sB⟩ := rsA.new (a := s.heap.objs.size + 1) (c := .obj c []) (o := .ins (He.ga X.K c) s.heap.objs.size []) (by rw [upd_ne (Ne.symm hne)]; exact hx0) (fun hz => ⟨hz, _, [], upd_same, rfl⟩)
  have hcell : (φ ++ [s.heap.objs.size + 1])[st.length]? = some (s.heap.objs.size + 1) := by
    rw [← rs.len, List.getElem?_append_right (Nat.le_refl _), Nat.sub_self]; rfl
  have hq : spF X.K F (.ref (s.heap.objs.size + 1) :: []) (upd (upd H s.heap.objs.size (.own (s.heap.objs.size + 1))) (s.heap.objs.size + 1) (.ins (He.ga X.K c) s.heap.objs.size [])) (fun v H2 => v = .non ∧ Q (.ref (s.heap.objs.size + 1)) H2) (WE W σ) := by
    refine call_sp (ds := [.cell st.length]) (η := η) rsB ((sl.mono sA).mono sB) ⟨_, [], rfl, ⟨_, hcell, rfl⟩, rfl⟩ ?_
    refine ((af1.later (sA.trans sB)).bind).mono fun b Z2 φ2 H2 t2 g2 rs2 u r2 => ?_
    obtain ⟨psi, rfl⟩ := t2.app
    have hc2 : ((φ ++ [s.heap.objs.size + 1]) ++ psi)[st.length]? = some (s.heap.objs.size + 1) := by
      rw [List.getElem?_append_left (by rw [List.length_append, rs.len]; simp)]; exact hcell
    unfold keepE at g2
    split at g2
    · rename_i eb
      rw [eb] at r2
      have hu : u = .non := by have r3 : Rep X.K Z2 .non u := r2; rw [Rep] at r3; exact r3
      exact ⟨hu, g2.here rs2 ⟨_, hc2, rfl⟩⟩
    · exact g2.elim
  have I2 := Inv.made (C := He.ga X.K c) I
  have r2 : Vals (V.ref (s.heap.objs.size + 1) :: []) [Value.ref (s.heap.objs.size + 1)] := .cons rfl .nil
  have hl : (Value.ref (s.heap.objs.size + 1) :: []).length = ps.length := by
    have e := r2.length
    rw [F0.len _ _ _ _ hq] at e
    exact e.symm
  have bb := hb _ (Value.ref (s.heap.objs.size + 1) :: []) I2.kIn (by rw [List.append_nil]; exact hl)
  rw [List.append_nil] at bb
  refine wpAny_call (make_map (f := f2) I.kIn M0.makes M0.init (beq_iff_eq.mp M0.fn) (codeAny_mono (F0.run _ X.stack _ _ ⟨Value.ref (s.heap.objs.size + 1) :: [], []⟩ (Value.ref (s.heap.objs.size + 1) :: []) _ _ (WE W σ) ((hr.mono hk).make _ [] [])
    (I2.env0.make _ [] []) bb r2 hq) fun r s' hq' => ?_))
  cases r with
  | error e => exact passAt tk σ pins _ _ e s' I2 hq'
  | ok fl =>
    cases fl with
    | ret u =>
      obtain ⟨v, H', I3, rv, ev, q3⟩ := I2.after hq'
      subst ev
      exact ⟨rv, ⟨V.ref (s.heap.objs.size + 1), H', I3, rfl, q3⟩⟩
    | next => exact False.elim hq'
    | brk => exact False.elim hq'
    | cont => exact False.elim hq'
end
end M
end
section
set_option Elab.async false
set_option linter.all false
set_option maxRecDepth 100000
set_option maxHeartbeats 0
namespace M
open PySem L2
section
variable {X : Cx} {pins : List (Addr × Obj)} {σ : St} {H : Hp} {s : Shared} {d : Addr} {o : Obj} {kvs : List (Key × V)}
theorem lockK (I : Inv X pins σ H s) (e : H d = some (.dK kvs)) : ∃ o, Inv X pins σ (upd H d (.frz o (.dK kvs))) s := by
  have ok := I.hok d _ e
  obtain ⟨z, y, vs, r, ob, es, ep, h1, c⟩ := ok
  refine ⟨ob, ?_⟩
  have := I.write (x := d) (e := d) (o := .frz ob (.dK kvs)) (h' := s.heap) (t' := s.toks) (by rw [e]; trivial) (.inl rfl) (fun b q _ z => z) ⟨ob, h1⟩ ⟨h1, I.hok d _ e⟩
  exact this
theorem nofrz (I : Inv X pins σ H s) (e : H d = some (.dK kvs)) : ∀ o u, X.H_0 d ≠ some (.frz o u) := fun o u z => by
  have := I.base.frzs d o u z
  rw [e] at this; cases this
theorem unlockK (I : Inv X pins σ H s) (e : H d = some (.frz o (.dK kvs))) (nf : ∀ o u, X.H_0 d ≠ some (.frz o u)) : Inv X pins σ (upd H d (.dK kvs)) s where
  ok := I.ok
  os := I.os
  bare := I.bare
  base := {
    keep := I.base.keep
    slot := I.base.slot
    free := fun b q h1 h2 h3 => by
      have h := I.base.free b q h1 h2 h3
      rw [upd_ne (fun z => by rw [z, e] at h; cases h)]; exact h
    there := I.base.there
    tups := fun b xs h => by
      have h := I.base.tups b xs h
      rw [upd_ne (fun z => by rw [z, e] at h; cases h)]; exact h
    frzs := fun b q u h => by
      have h' := I.base.frzs b q u h
      have hb : b ≠ d := fun z => by subst z; exact nf q u h
      rw [upd_ne hb]; exact h'
    tbls := fun b ps h => by
      obtain ⟨m, h⟩ := I.base.tbls b ps h
      exact ⟨m, by rw [upd_ne (fun z => by rw [z, e] at h; cases h)]; exact h⟩ }
  loc := I.loc
  cell := I.cell
  free := by
    have h := I.free
    rw [upd_ne (fun z => by rw [z, e] at h; cases h)]; exact h
  freeC := fun x c h => by
    have h := I.freeC x c h
    rw [upd_ne (fun z => by rw [z, e] at h; cases h)]; exact h
  pin := fun p hp => by
    obtain ⟨h1, h2, h3⟩ := I.pin p hp
    exact ⟨h1, by rw [upd_ne (fun z => by rw [z, e] at h2; cases h2)]; exact h2, h3⟩
  hok := fun b u h => by
    by_cases hb : b = d
    · subst hb
      rw [upd_same] at h; cases h
      exact (I.hok b _ e).2
    · rw [upd_ne hb] at h
      refine (I.hok b u h).stay (fun c v _ q => q) (fun c q => ?_) fun c xs q => ?_
      · rw [upd_ne (fun z => by rw [z, e] at q; cases q)]; exact q
      · rw [upd_ne (fun z => by rw [z, e] at q; cases q)]; exact q
  len := I.len
end
def iKeysL (td : TE) : TI := fun σ H R => td σ H fun x H1 => ∃ d kvs, x = .ref d ∧ H1 d = some (.dK kvs) ∧ ∀ o, R (Itk d o kvs) (upd H1 d (.frz o (.dK kvs)))
section
variable {X : Cx} {tg e : Expr} {td : TE}
theorem pi_keysL (he : PE X e td) : PI X tg e (iKeysL td) := by
  refine ⟨fun pins s σ H R I h => ?_⟩
  refine thn (he.run pins s σ H _ I h) fun u s1 ⟨x, H1, I0, rx, d, kvs, ex, hd, q⟩ => ?_
  subst ex
  obtain rfl : u = Value.ref d := rx
  obtain ⟨o, I1⟩ := lockK I0 hd
  obtain ⟨hs, hgd, hx, es, ep, vs, hdt, hsz, kv, hm⟩ := I1.frzK upd_same
  refine iter_keys hs hgd hx hdt (pi_one (tk := s1.toks) I1 _ (turn_keys _ hdt) ⟨_, Heap.get?_push_size _ rfl, rfl, ?_⟩ (q o))
  rw [hsz] <;> rfl
/-- behind an expression that locked the dict at d: unlocked -/
theorem pe_unlock {t : TE} (h : PE X e t) : PE X e (fun σ H Q => ∃ d kvs, H d = some (.dK kvs) ∧ t σ H fun v H' => ∃ o kws, H' d = some (.frz o (.dK kws)) ∧ Q v (upd H' d (.dK kws))) := by
  refine ⟨fun pins s σ H Q I ⟨d, kvs, hd, hh⟩ => ?_⟩
  have nf := nofrz I hd
  exact thn (h.run pins s σ H _ I hh) fun u s1 ⟨v, H1, I1, r, o, kws, e1, q⟩ => ⟨v, _, unlockK I1 e1 nf, r, q⟩
end
end M
end
section
set_option Elab.async false
set_option linter.all false
set_option maxRecDepth 100000
set_option maxHeartbeats 0
namespace M
open PySem L2
def dcD (i : Nat) (fk fv : DE) (η : Et) : List P → List (Key × P) → Sr → R (List (Key × P) × Sr)
  | [], acc, st => .ok (acc, st)
  | x :: xs, acc, st => (fk (η.set i (some (.fz x))) st).bind fun a => (fv (η.set i (some (.fz x))) a.2).bind fun b => match (peek b.2 a.1).bind keyP, toP b.2 b.1 with
    | some k, some (p, st2) => if ndK acc = true ∧ acc.length < szL then dcD i fk fv η xs (putP k p acc) st2 else .stuck
    | _, _ => .stuck
def dcF (n : Nat) (r : R (List (Key × P) × Sr)) : R (D × Sr) := r.calm.bind fun a => match a.2[n]? with
  | some (.ldct kvs) => .ok (.cell a.2.length, a.2.set n (.dct kvs) ++ [.dct a.1])
  | _ => .stuck
def dDcK (fp : Et → Sr → Option Nat) (i : Nat) (fk fv : DE) : DE := fun η st => match fp η st with
  | some n => (match st[n]? with
    | some (.dct kvs) => dcF n (dcD i fk fv η (kvs.map fun kv => keyD kv.1) [] (st.set n (.ldct kvs)))
    | _ => .stuck)
  | none => .stuck
section
variable {K : PySem.W.Frag} {Z H : Hp} {φ : List Addr}
/-- the dict that is being made, beside the store -/
structure Mk2 (K : PySem.W.Frag) (Z : Hp) (φ : List Addr) (H : Hp) (p : Addr) (acc : List (Key × P)) : Prop where
  out : p ∉ φ
  zn : Z p = none
  at_ : ∃ kws, H p = some (.dK kws) ∧ RepK K Z acc kws
theorem Mk2.step {Z' H' : Hp} {φ' : List Addr} {p : Addr} {acc : List (Key × P)} (m : Mk2 K Z φ H p acc) (s : Step Z φ H Z' φ' H') : Mk2 K Z' φ' H' p acc := by
  obtain ⟨vs, h1, h2⟩ := m.at_
  refine ⟨fun hm => ?_, ?_, vs, s.fr p _ h1 m.out dat_dK.1, RepK.mono s.hz _ _ h2⟩
  · obtain ⟨psi, rfl, hn⟩ := s.pre
    rcases List.mem_append.mp hm with hm | hm
    · exact m.out hm
    · exact (hn p hm).no h1 dat_dK.1
  · cases q : Z' p with
    | none => rfl
    | some o =>
      exfalso
      rcases s.zn p (by rw [q]; exact fun z => nomatch z) with z | z | z
      · exact z m.zn
      · exact z.no h1 dat_dK.1
      · exact m.out z
theorem Mk2.push {st : Sr} {p : Addr} {acc : List (Key × P)} {k : Key} {x : P} {v : V} {kws : List (Key × V)} (m : Mk2 K Z φ H p acc) (rs : RS K Z φ st H) (h1 : H p = some (.dK kws)) (hn : ndK acc = true) (r : Rep K Z x v) :
    RS K Z φ st (upd H p (.dK (putK kws k v))) ∧ Mk2 K Z φ (upd H p (.dK (putK kws k v))) p (putP k x acc) := by
  obtain ⟨ws, h2, h3⟩ := m.at_
  rw [h1] at h2; cases h2
  refine ⟨⟨fun b u hb => ?_, rs.len, rs.nd, fun i b c hi hc => ?_, tabs_upd rs.tb (fun u hu => by rw [h1] at hu; cases hu; exact dat_dK), rs.zd⟩, m.out, m.zn, _, upd_same, putP_ok r hn h3⟩
  · rw [upd_ne (by rintro rfl; rw [m.zn] at hb; cases hb)]; exact rs.same b u hb
  · have nb : b ≠ p := by rintro rfl; exact m.out (List.mem_of_getElem? hi)
    exact (rs.cells i b c hi hc).keep (Same.refl _) ⟨[], by simp⟩ (fun q => (rs.cells i b c hi hc).free q) fun u hu _ => by rw [upd_ne nb]; exact hu
theorem RS.adoptK {st : Sr} {p : Addr} {xs : List (Key × P)} {vs : List (Key × V)} (rs : RS K Z φ st H) (h1 : p ∉ φ) (h2 : Z p = none) (h3 : H p = some (.dK vs)) (h4 : RepK K Z xs vs) : RS K Z (φ ++ [p]) (st ++ [.dct xs]) H := by
  refine ⟨rs.same, by simp [rs.len], ?_, fun i b c' hi hc' => ?_, rs.tb, rs.zd⟩
  · exact List.nodup_append.mpr ⟨rs.nd, by simp, fun x hx y hy => by simp at hy; subst hy; rintro rfl; exact h1 hx⟩
  · by_cases hl : i < φ.length
    · rw [List.getElem?_append_left hl] at hi
      rw [List.getElem?_append_left (by rw [← rs.len]; exact hl)] at hc'
      exact (rs.cells i b c' hi hc').keep (Same.refl _) ⟨[p], rfl⟩ (fun q => (rs.cells i b c' hi hc').free q) fun u hu _ => hu
    · rw [List.getElem?_append_right (by omega)] at hi
      rw [List.getElem?_append_right (by rw [← rs.len]; omega), ← rs.len] at hc'
      cases hk : i - φ.length with
      | zero => rw [hk] at hi hc'; simp at hi hc'; subst hi hc'; exact ⟨h2, vs, h3, h4⟩
      | succ k => rw [hk] at hi; simp at hi
end
/-- the loop's state: behind all turns the dict is unlocked -/
def DcI (K : PySem.W.Frag) (W : WX) (n i : Nat) (fk fv : DE) (η : Et) (Q : VK) (σ : St) (Z0 : Hp) (φ0 : List Addr) (H0 : Hp) (d : Addr) (p : Addr) (ys : List P) (H : Hp) : Prop :=
  ∃ Z φ st acc, RS K Z φ st H ∧ Slots K Z φ η σ ∧ Mk2 K Z φ H p acc ∧ Step Z0 φ0 H0 Z φ H ∧ (∀ (Z' : Hp) (φ' : List Addr) (H' : Hp) (st' : Sr) (acc' : List (Key × P)), RS K Z' φ' st' H' → Mk2 K Z' φ' H' p acc' → Step Z0 φ0 H0 Z' φ' H' → dcD i fk fv η ys acc st = .ok (acc', st') → ∃ o kws, H' d = some (.frz o (.dK kws)) ∧ Q (.ref p) (upd H' d (.dK kws))) ∧ ∃ r, dcD i fk fv η ys acc st = .ok r
section
variable {K : PySem.W.Frag} {W : WX} {n i : Nat} {fk fv : DE} {η : Et} {Q : VK} {σ : St} {Z0 H0 : Hp} {φ0 : List Addr} {p d : Addr}
theorem DcI.done {H : Hp} (h : DcI K W n i fk fv η Q σ Z0 φ0 H0 d p [] H) : ∃ o kws, H d = some (.frz o (.dK kws)) ∧ Q (.ref p) (upd H d (.dK kws)) := by
  obtain ⟨Z, φ, st, acc, rs, sl, m, s, af, _⟩ := h
  exact af Z φ H st acc rs m s rfl
theorem DcI.turn (h0 : H0 p = none) {x : P} {ys : List P} {H : Hp} {v : V} (h : DcI K W n i fk fv η Q σ Z0 φ0 H0 d p (x :: ys) H) (hv : ∀ Z, Rep K Z x v) :
    tE K W0 fk (σ.set i (some v)) H fun y H4 => tE K W0 fv (σ.set i (some v)) H4 fun z H5 => ∃ kvs k, y = kV k ∧ H5 p = some (.dK kvs) ∧ kvs.length < sizeLine ∧ DcI K W n i fk fv η Q σ Z0 φ0 H0 d p ys (upd H5 p (.dK (putK kvs k z))) := by
  obtain ⟨Z, φ, st, acc, rs, sl, m, s, af, ⟨⟨acc', st'⟩, he⟩⟩ := h
  have slv : Slots K Z φ (η.set i (some (.fz x))) (σ.set i (some v)) := sl.set (hv Z)
  refine ⟨Z, φ, _, st, rs, slv, ?_⟩
  have he0 := he
  unfold dcD at he
  cases e1 : fk (η.set i (some (.fz x))) st with
  | exc => rw [e1] at he; cases he
  | stuck => rw [e1] at he; cases he
  | ok a =>
    rw [e1] at he
    intro Z1 φ1 H1 s1 rs1 y ry
    have m1 := m.step s1
    refine ⟨Z1, φ1, _, a.2, rs1, slv.mono s1, ?_⟩
    have he1 : ((fv (η.set i (some (.fz x))) a.2).bind fun b => match (peek b.2 a.1).bind keyP, toP b.2 b.1 with
      | some k, some (p, st2) => if ndK acc = true ∧ acc.length < szL then dcD i fk fv η ys (putP k p acc) st2 else .stuck
      | _, _ => .stuck) = .ok (acc', st') := he
    cases e2 : fv (η.set i (some (.fz x))) a.2 with
    | exc => rw [e2] at he1; cases he1
    | stuck => rw [e2] at he1; cases he1
    | ok b =>
      rw [e2] at he1
      intro Z2 φ2 H2 s2 rs2 z rz
      have m2 := m1.step s2
      obtain ⟨kws, h1, h2⟩ := m2.at_
      have he2 : (match (peek b.2 a.1).bind keyP, toP b.2 b.1 with
        | some k, some (p, st2) => if ndK acc = true ∧ acc.length < szL then dcD i fk fv η ys (putP k p acc) st2 else .stuck
        | _, _ => .stuck) = .ok (acc', st') := he1
      split at he2
      · rename_i k q st3 ek e3
        obtain ⟨pi, e6, e7⟩ := Option.bind_eq_some_iff.mp ek
        have hk := keyP_rep ((peek_pk rs2 e6 (ry.mono s2.hz s2.app)).rp rs2.same) e7
        split at he2
        · rename_i hz
          obtain ⟨Z3, f3, rs3, r3⟩ := toP_ok rs2 e3 rz
          have m3 := m2.step f3.step
          obtain ⟨rs4, m4⟩ := m3.push (k := k) rs3 h1 hz.1 r3
          have s3 := ((s.trans s1).trans s2).trans f3.step
          refine ⟨kws, k, hk, h1, by rw [← h2.length, ← szL_eq]; exact hz.2, Z3, φ2, st3, putP k q acc, rs4, ((sl.mono s1).mono s2).mono f3.step, m4, ?_, ?_, ⟨_, he2⟩⟩
          · refine ⟨s3.hz, s3.pre, fun b o hb hn ht => ?_, s3.zn, fun b hb => ?_, fun b q u hb => ?_⟩
            · rw [upd_ne]
              · exact s3.fr b o hb hn ht
              · rintro rfl
                rw [h0] at hb; cases hb
            · by_cases q : b = p
              · subst q; exact .of h0
              · exact s3.up b fun o ho => hb o (by rw [upd_ne q]; exact ho)
            · rw [upd_ne (by rintro rfl; rw [h0] at hb; cases hb)]; exact s3.lk b q u hb
          · intro Z' φ' H' st'' acc'' r1 r2 r3' r4
            rw [he2] at r4
            cases r4
            exact af Z' φ' H' _ _ r1 r2 r3' he0
        · cases he2
      · cases he2
end
/-- over the keys of a locked dict -/
theorem dc_keys {d : Addr} {o : Obj} {kvs : List (Key × V)} {g : TG} {tt : TT} {tk tv : TE} {vs : List Nat} {σ : St} {H1 : Hp} {D : Addr} {Qd : Hp → Prop} (Pv : Nat → Hp → Prop) (h0 : Pv 0 (upd H1 D (.dK []))) (hl : ∀ i H, i ≤ kvs.length → Pv i H → H d = some (.frz o (.dK kvs)))
    (hs : ∀ i k v H, kvs[i]? = some (k, v) → Pv i H → g (kV k) (wipe σ vs) H fun σ2 H2 => wipe σ2 vs = wipe σ vs ∧ tt σ2 H2 fun b H3 =>
      if b = true then tk σ2 H3 fun y H4 => tv σ2 H4 fun z H5 => ∃ kvs k, y = kV k ∧ H5 D = some (.dK kvs) ∧ kvs.length < sizeLine ∧ Pv (i + 1) (upd H5 D (.dK (putK kvs k z))) else Pv (i + 1) H3) (hd : ∀ H, Pv kvs.length H → Qd H) :
    ∃ W : Nat → Nat → Hp → Prop, (∃ m, W 0 m (upd H1 D (.dK []))) ∧ ∀ i m H, W i m H →
      ((Itk d o kvs).stop i H ∧ Qd H) ∨ ((Itk d o kvs).go i H ∧ ∃ Nx : Hp → Prop, (∀ H', Nx H' → ∃ m', m' < m ∧ W (i + 1) m' H') ∧ ∀ x H', (Itk d o kvs).yld i H x H' → g x (wipe σ vs) H' fun σ2 H2 => wipe σ2 vs = wipe σ vs ∧ tt σ2 H2 fun b H3 =>
        if b = true then tk σ2 H3 fun y H4 => tv σ2 H4 fun z H5 => ∃ kvs k, y = kV k ∧ H5 D = some (.dK kvs) ∧ kvs.length < sizeLine ∧ Nx (upd H5 D (.dK (putK kvs k z))) else Nx H3) := by
  refine ⟨fun i m H => m = kvs.length - i ∧ i ≤ kvs.length ∧ Pv i H, ⟨kvs.length, by simp, Nat.zero_le _, h0⟩, ?_⟩
  rintro i m H ⟨rfl, hi, p⟩
  have q := hl i H hi p
  by_cases hlt : i < kvs.length
  · refine .inr ⟨⟨q, hlt⟩, Pv (i + 1), fun H' p' => ⟨kvs.length - (i + 1), by omega, rfl, hlt, p'⟩, fun x H' y => ?_⟩
    obtain ⟨e, k, v, y, ex⟩ := y
    subst e; subst ex
    exact hs i k v _ y p
  · have e : i = kvs.length := by omega
    subst e
    exact .inl ⟨⟨q, Nat.le_refl _⟩, hd H p⟩
section
variable {X : Cx} {W : WX} {kx vx iter : Expr} {scope : Scope} {x : Str} {i : Nat} {tpos pos : Pos} {f fk fv : DE} {fp : Et → Sr → Option Nat}
theorem key_rep {K : PySem.W.Frag} {Z : Hp} (k : Key) : Rep K Z (keyD k) (kV k) := by
  cases k <;> (unfold keyD; rw [Rep]; rfl)
theorem repk_keys {K : PySem.W.Frag} {Z : Hp} : ∀ {kvs : List (Key × P)} {kws : List (Key × V)}, RepK K Z kvs kws → kvs.map (fun kv => kv.1) = kws.map fun kv => kv.1
  | [], kws, h => by rw [RepK] at h; subst h; rfl
  | (k, p) :: r, kws, h => by
    rw [RepK] at h
    obtain ⟨v, ws, rfl, h1, h2⟩ := h
    rw [List.map_cons, List.map_cons, repk_keys h2]
/-- only what stands: a cell's object and content exchanged -/
theorem RS.writeR {K : PySem.W.Frag} {Z H : Hp} {φ : List Addr} {st : Sr} (h : RS K Z φ st H) {n : Nat} {a : Addr} {c : Ct} {o : HO} (e : φ[n]? = some a) (hz : Z a = none) (hc : RelC K Z φ (upd H a o) a c) : RS K Z φ (st.set n c) (upd H a o) := by
  refine ⟨fun b u hb => ?_, by simp [h.len], h.nd, fun i b c' hi hc' => ?_, tabs_upd h.tb (fun u hu => ?_), h.zd⟩
  · rw [upd_ne (by rintro rfl; rw [hz] at hb; cases hb)]; exact h.same b u hb
  · by_cases hin : i = n
    · subst hin
      rw [e] at hi; cases hi
      have hl : i < st.length := by rw [← h.len]; exact (List.getElem?_eq_some_iff.mp e).1
      rw [List.getElem?_set_self hl] at hc'; cases hc'
      exact hc
    · rw [List.getElem?_set_ne (Ne.symm hin)] at hc'
      have nb : b ≠ a := by
        rintro rfl
        obtain ⟨h1, e1⟩ := List.getElem?_eq_some_iff.mp hi
        obtain ⟨h2, e2⟩ := List.getElem?_eq_some_iff.mp e
        exact hin ((List.getElem_inj h.nd).mp (e1.trans e2.symm))
      exact (h.cells i b c' hi hc').keep (Same.refl _) ⟨[], by simp⟩ (fun q => (h.cells i b c' hi hc').free q) fun u hu _ => by rw [upd_ne nb]; exact hu
  · obtain ⟨c0, hc0, r0⟩ := h.at_ e
    obtain ⟨u', e1, e2⟩ := r0.at2
    rw [hu] at e1; cases e1; exact e2
theorem de_dcK (hc : X.calm = true) (hN : X.N.Nodup) (hl : PE X iter (tE X.K W f)) (hf : ∀ η st n, fp η st = some n → f η st = .ok (.cell n, st)) (ok : BlkOk X.N X.env.scope scope [(x, i)])
    (hg : ∀ (s : Shared) (H : Hp) (C : Addr) (cl : List (Str × Addr)) (fp : List Addr), PG (X.blk s H scope (compEnvC scope cl C X.env) fp) (.Name x tpos) (gName i))
    (hk : ∀ (s : Shared) (H : Hp) (C : Addr) (cl : List (Str × Addr)) (fp : List Addr), PE (X.blk s H scope (compEnvC scope cl C X.env) fp) kx (tE X.K W0 fk))
    (hv : ∀ (s : Shared) (H : Hp) (C : Addr) (cl : List (Str × Addr)) (fp : List Addr), PE (X.blk s H scope (compEnvC scope cl C X.env) fp) vx (tE X.K W0 fv)) (hs : ∀ x, foldedSetIterable iter X.env x = pure x := by intro _; rfl) :
    PE X (.DictComp kx vx [⟨.Name x tpos, iter, [], 0⟩] scope pos) (tE X.K W (dDcK fp i fk fv)) := by
  refine (pe_unlock (pe_dc (own := [(x, i)]) hc hN (pi_keysL hl) ok hg (fun _ _ _ _ _ => pts_nil) hk hv hs)).to fun σ H Q hh => ?_
  obtain ⟨Z, φ, η, st, rs, sl, af⟩ := hh
  unfold dDcK at af
  split at af
  rotate_left
  · exact af.elim
  rename_i n en
  split at af
  rotate_left
  · exact af.elim
  rename_i kvs ec
  have hn := (List.getElem?_eq_some_iff.mp ec).1
  have hnφ : n < φ.length := by rw [rs.len]; exact hn
  have ha := List.getElem?_eq_getElem hnφ
  obtain ⟨hz, kws, hH, hR⟩ := rs.cells n _ _ ha ec
  refine ⟨φ[n], kws, hH, Z, φ, η, st, rs, sl, ?_⟩
  rw [hf η st n en]
  intro Z1 φ1 H1 s1 rs1 v rv
  obtain ⟨psi, rfl, hpsi⟩ := s1.pre
  obtain ⟨a1, h1, rfl⟩ := rv
  rw [List.getElem?_append_left hnφ, ha] at h1
  cases h1
  have ha1 : (φ ++ psi)[n]? = some φ[n] := by rw [List.getElem?_append_left hnφ]; exact ha
  obtain ⟨hz1, kws1, hH1, hR1⟩ := rs1.cells n _ _ ha1 ec
  refine ⟨_, kws1, rfl, hH1, fun o D hD => ?_⟩
  -- locked
  obtain ⟨rsL, sL⟩ := rs1.write (c := .ldct kvs) (o := .frz o (.dK kws1)) ha1 hz1 ⟨hz1, o, kws1, upd_same, hR1⟩ (fun _ _ z => by rw [hH1] at z; cases z)
  have S0 := s1.trans sL
  have hda : φ[n] ∈ φ := List.getElem_mem hnφ
  have hDd : D ≠ φ[n] := by rintro rfl; rw [upd_same] at hD; cases hD
  have hkl : kvs.length = kws1.length := by have := congrArg List.length (repk_keys hR1); simpa using this
  have hzD : Z1 D = none := rsL.same.free hD
  have naD : D ∉ φ ++ psi := fun hm => by obtain ⟨u, hu⟩ := rsL.some_ hm; rw [hD] at hu; cases hu
  have hex : ∃ r, dcD i fk fv η (kvs.map fun kv => keyD kv.1) [] (st.set n (.ldct kvs)) = .ok r := by
    cases er : dcD i fk fv η (kvs.map fun kv => keyD kv.1) [] (st.set n (.ldct kvs)) with
    | ok r => exact ⟨r, rfl⟩
    | exc => rw [er] at af; exact af.elim
    | stuck => rw [er] at af; exact af.elim
  refine dc_keys (Qd := fun H' => ∃ o kws, H' φ[n] = some (.frz o (.dK kws)) ∧ Q (.ref D) (upd H' φ[n] (.dK kws))) (fun j H' => DcI X.K W n i fk fv η Q σ Z1 (φ ++ psi) (upd H1 φ[n] (.frz o (.dK kws1))) φ[n] D ((kvs.map fun kv => keyD kv.1).drop j) H') ?_ (fun j H' _ hp => ?_) (fun j k v H' hkv hp => ?_) (fun H' hp => ?_)
  · rw [List.drop_zero]
    refine ⟨Z1, φ ++ psi, st.set n (.ldct kvs), [], ⟨fun b u hb => ?_, rsL.len, rsL.nd, fun j b c hj hc => ?_, tabs_upd rsL.tb (fun u hu => by rw [hD] at hu; cases hu), rsL.zd⟩, sl.mono s1, ⟨naD, hzD, [], upd_same, by rw [RepK]⟩, ⟨Same.refl _, ⟨[], by simp, by simp⟩, fun b u hb hn _ => ?_, fun b hb => .inl hb, fun b hb => ?_, fun b q u hb => by rw [upd_ne (by rintro rfl; rw [hD] at hb; cases hb)]; exact hb⟩, ?_, hex⟩
    · rw [upd_ne (by rintro rfl; rw [hzD] at hb; cases hb)]; exact rsL.same b u hb
    · have nb : b ≠ D := by rintro rfl; exact naD (List.mem_of_getElem? hj)
      exact (rsL.cells j b c hj hc).keep (Same.refl _) ⟨[], by simp⟩ (fun q => (rsL.cells j b c hj hc).free q) fun u hu _ => by rw [upd_ne nb]; exact hu
    · rw [upd_ne (by rintro rfl; rw [hD] at hb; cases hb)]; exact hb
    · by_cases q : b = D
      · subst q; exact .of hD
      · exact fun o ho => hb o (by rw [upd_ne q]; exact ho)
    · intro Z' φ' H' st' acc' rs' m' s' e'
      rw [e'] at af
      have af2 : Af X.K W Z φ H (match st'[n]? with
        | some (.ldct kvs) => .ok (.cell st'.length, st'.set n (.dct kvs) ++ [.dct acc'])
        | _ => .stuck) (GE X.K Q) := af
      split at af2
      rotate_left
      · exact af2.elim
      rename_i kvs' en'
      obtain ⟨psi', rfl, hpsi'⟩ := s'.pre
      have ha' : ((φ ++ psi) ++ psi')[n]? = some φ[n] := by rw [List.getElem?_append_left (by rw [List.length_append]; omega)]; exact ha1
      obtain ⟨hz', o', kws', hH', hR'⟩ := rs'.cells n _ _ ha' en'
      have S := S0.trans s'
      refine ⟨o', kws', hH', ?_⟩
      have rsU := rs'.writeR (c := .dct kvs') (o := .dK kws') ha' hz' ⟨hz', kws', upd_same, hR'⟩
      obtain ⟨aw, hD', hRD⟩ := m'.at_
      have rsF := rsU.adoptK m'.out m'.zn (by rw [upd_ne hDd]; exact hD') hRD
      have hlen : (st'.set n (.dct kvs')).length = st'.length := List.length_set
      refine af2 Z' _ _ ⟨S.hz, ⟨psi ++ psi' ++ [D], by simp, fun b hb => ?_⟩, fun b u hb hn ht => ?_, S.zn, fun b hb => ?_, fun b q u hb => ?_⟩ rsF _ ⟨D, ?_, rfl⟩
      · rcases List.mem_append.mp hb with hb | hb
        · obtain ⟨q1, e1, e2⟩ := S.pre
          have : q1 = psi ++ psi' := by
            rw [List.append_assoc] at e1
            exact (List.append_cancel_left e1).symm
          subst this
          exact e2 b hb
        · rw [List.mem_singleton.mp hb]
          exact S0.up D (.of hD)
      · have h9 := S.fr b u hb hn ht
        rw [upd_ne (by rintro rfl; exact hn hda)]; exact h9
      · by_cases q : b = φ[n]
        · subst q
          exact (hb.no upd_same dat_dK.1).elim
        · exact S.up b fun u hu => hb u (by rw [upd_ne q]; exact hu)
      · have h9 := S.lk b q u hb
        rw [upd_ne (by rintro rfl; rw [hH] at hb; cases hb)]; exact h9
      · rw [← hlen, ← rsU.len]
        simp
  · obtain ⟨_, _, _, _, _, _, _, s, _⟩ := hp
    exact s.lk _ _ _ upd_same
  · refine ⟨wipe1 _ _ _, ?_⟩
    show tE X.K W0 fk _ _ _
    simp only [List.map_cons, List.map_nil]
    rw [wipe1s]
    have hj : j < kvs.length := by rw [hkl]; exact (List.getElem?_eq_some_iff.mp hkv).1
    have hkj : (kvs.map fun kv => keyD kv.1)[j]? = some (keyD k) := by
      have h9 : (kvs.map fun kv => kv.1)[j]? = some k := by rw [repk_keys hR1, List.getElem?_map, hkv]; rfl
      rw [List.getElem?_map] at h9 ⊢
      cases q : kvs[j]? with
      | none => rw [q] at h9; cases h9
      | some x => rw [q] at h9; cases h9; rfl
    rw [drop_cons hkj] at hp
    exact hp.turn hD fun Z => key_rep k
  · rw [List.drop_eq_nil_of_le (by rw [List.length_map, hkl]; exact Nat.le_refl _)] at hp
    exact hp.done
end
end M
end
section
set_option Elab.async false
set_option linter.all false
set_option maxRecDepth 100000
set_option maxHeartbeats 0
namespace M
open PySem L2
def dForK (fp : Et → Sr → Option Nat) (g : DG) (b : DS) : DS := fun η st => match fp η st with
  | some n => (match st[n]? with
    | some (.dct kvs) => (match loopD g b (kvs.map fun kv => keyD kv.1) η (st.set n (.ldct kvs)) with
      | .ok (.nx, η', st') => (match st'[n]? with
        | some (.ldct kvs') => .ok (.nx, η', st'.set n (.dct kvs'))
        | _ => .stuck)
      | _ => .stuck)
    | _ => .stuck)
  | none => .stuck
section
variable {X : Cx} {s : Stmt}
def unE (D : Ends) (d : Addr) : Ends := { nx := fun σ H => ∃ o kws, H d = some (.frz o (.dK kws)) ∧ D.nx σ (upd H d (.dK kws)), rt := fun _ _ => False }
theorem ps_unlock {t : TS} (h : PS X s t) : PS X s (fun D σ H => ∃ d kvs, H d = some (.dK kvs) ∧ t (unE D d) σ H) := by
  refine ⟨fun pins s σ H D I ⟨d, kvs, hd, hh⟩ => ?_⟩
  have nf := nofrz I hd
  refine thn (h.run pins s σ H _ I hh) fun fl s1 q => ?_
  cases fl with
  | next =>
    obtain ⟨σ', H1, I1, o, kws, e1, q⟩ := q
    exact ⟨σ', _, unlockK I1 e1 nf, q⟩
  | brk => obtain ⟨_, _, _, q⟩ := q; exact q.elim
  | cont => obtain ⟨_, _, _, q⟩ := q; exact q.elim
  | ret u => obtain ⟨_, _, _, _, _, q⟩ := q; exact q.elim
end
section
variable {K : PySem.W.Frag} {W : WX} {g : DG} {b : DS} {E : St → Hp → Prop} {Z0 H0 : Hp} {φ0 : List Addr}
def LkI (K : PySem.W.Frag) (g : DG) (b : DS) (E : St → Hp → Prop) (Z0 : Hp) (φ0 : List Addr) (H0 : Hp) (η9 : Et) (st9 : Sr) (ys : List P) (σ : St) (H : Hp) : Prop :=
  ∃ Z φ η st, RS K Z φ st H ∧ Slots K Z φ η σ ∧ Step Z0 φ0 H0 Z φ H ∧ loopD g b ys η st = .ok (.nx, η9, st9) ∧ ∀ (Z' : Hp) (φ' : List Addr) (H' : Hp) (σ' : St), RS K Z' φ' st9 H' → Slots K Z' φ' η9 σ' → Step Z0 φ0 H0 Z' φ' H' → E σ' H'
theorem LkI.turn {η9 : Et} {st9 : Sr} {p : P} {ys : List P} {σ : St} {H : Hp} {v : V} {D : Ends} (hE : D.nx = E) (h : LkI K g b E Z0 φ0 H0 η9 st9 (p :: ys) σ H) (hv : ∀ Z, Rep K Z p v) :
    tG K g v σ H (fun σ2 H2 => tS K W b { D with nx := LkI K g b E Z0 φ0 H0 η9 st9 ys, ct := LkI K g b E Z0 φ0 H0 η9 st9 ys, bk := D.nx } σ2 H2) := by
  obtain ⟨Z, φ, η, st, rs, sl, s, he, hc⟩ := h
  unfold loopD at he
  split at he
  · cases he
  · rename_i η1 e1
    refine ⟨Z, φ, η, st, .fz p, rs, sl, hv Z, η1, e1, fun σ2 sl2 => ⟨Z, φ, η1, st, rs, sl2, ?_⟩⟩
    cases e2 : b η1 st with
    | exc => rw [e2] at he; cases he
    | stuck => rw [e2] at he; cases he
    | ok r =>
      rw [e2] at he
      obtain ⟨fl, η2, st2⟩ := r
      intro Z' φ' H' t rs'
      cases fl with
      | nx => exact fun σ' sl' => ⟨Z', φ', η2, st2, rs', sl', s.trans t, he, hc⟩
      | ct => exact fun σ' sl' => ⟨Z', φ', η2, st2, rs', sl', s.trans t, he, hc⟩
      | bk =>
        have he' : R.ok (Fl.nx, η2, st2) = R.ok (Fl.nx, η9, st9) := he
        cases he'
        intro σ' sl'
        show D.nx σ' H'
        rw [hE]
        exact hc Z' φ' H' σ' rs' sl' (s.trans t)
      | rt d => cases he
theorem LkI.done {η9 : Et} {st9 : Sr} {σ : St} {H : Hp} (h : LkI K g b E Z0 φ0 H0 η9 st9 [] σ H) : E σ H := by
  obtain ⟨Z, φ, η, st, rs, sl, s, he, hc⟩ := h
  cases he
  exact hc Z φ H σ rs sl s
theorem for_keys {d : Addr} {o : Obj} {kvs : List (Key × V)} {g : TG} {tb : TS} {D : Ends} {σ : St} {H : Hp} (Pv : Nat → St → Hp → Prop) (h0 : Pv 0 σ H) (hl : ∀ i σ H, i ≤ kvs.length → Pv i σ H → H d = some (.frz o (.dK kvs)))
    (hs : ∀ i k v σ H, kvs[i]? = some (k, v) → Pv i σ H → g (kV k) σ H fun σ2 H2 => tb { D with nx := Pv (i + 1), ct := Pv (i + 1), bk := D.nx } σ2 H2) (hd : ∀ σ H, Pv kvs.length σ H → D.nx σ H) :
    ∃ W : Nat → Nat → St → Hp → Prop, (∃ m, W 0 m σ H) ∧ ∀ i m σ H, W i m σ H →
      ((Itk d o kvs).stop i H ∧ D.nx σ H) ∨ ((Itk d o kvs).go i H ∧ ∃ N : St → Hp → Prop, (∀ σ' H', N σ' H' → ∃ m', m' < m ∧ W (i + 1) m' σ' H') ∧ ∀ x H', (Itk d o kvs).yld i H x H' → g x σ H' fun σ2 H2 => tb { D with nx := N, ct := N, bk := D.nx } σ2 H2) := by
  refine ⟨fun i m σ H => m = kvs.length - i ∧ i ≤ kvs.length ∧ Pv i σ H, ⟨kvs.length, by simp, Nat.zero_le _, h0⟩, ?_⟩
  rintro i m σ H ⟨rfl, hi, p⟩
  have q := hl i σ H hi p
  by_cases hlt : i < kvs.length
  · refine .inr ⟨⟨q, hlt⟩, Pv (i + 1), fun σ' H' p' => ⟨kvs.length - (i + 1), by omega, rfl, hlt, p'⟩, fun x H' y => ?_⟩
    obtain ⟨e, k, v, y, ex⟩ := y
    subst e; subst ex
    exact hs i k v σ _ y p
  · have e : i = kvs.length := by omega
    subst e
    exact .inl ⟨⟨q, Nat.le_refl _⟩, hd σ H p⟩
end
section
variable {X : Cx} {W : WX} {tg l : Expr} {body : List Stmt} {pos : Pos} {f : DE} {g : DG} {b : DS} {fp : Et → Sr → Option Nat}
theorem ds_forK (hp : PassesOwn (model X.prog X.w) X.A X.env X.xe) (hc : X.calm = true) (hl : PE X l (tE X.K W f)) (hf : ∀ η st n, fp η st = some n → f η st = .ok (.cell n, st)) (hg : PG X tg (tG X.K g)) (hb : PSs X body (tS X.K W b)) (hs : ∀ x, foldedSetIterable l X.env x = pure x := by intro _; rfl) :
    PS X (.For tg l body [] pos) (tS X.K W (dForK fp g b)) := by
  refine (ps_unlock (ps_for hp hc (pi_keysL hl) hg hb hs)).to fun D σ H hh => ?_
  obtain ⟨Z, φ, η, st, rs, sl, af⟩ := hh
  unfold dForK at af
  split at af
  rotate_left
  · exact af.elim
  rename_i n en
  split at af
  rotate_left
  · exact af.elim
  rename_i kvs ec
  split at af
  rotate_left
  · exact af.elim
  rename_i η9 st9 e9
  split at af
  rotate_left
  · exact af.elim
  rename_i kvs' en'
  have hn := (List.getElem?_eq_some_iff.mp ec).1
  have hnφ : n < φ.length := by rw [rs.len]; exact hn
  have ha := List.getElem?_eq_getElem hnφ
  obtain ⟨hz, kws, hH, hR⟩ := rs.cells n _ _ ha ec
  refine ⟨φ[n], kws, hH, Z, φ, η, st, rs, sl, ?_⟩
  rw [hf η st n en]
  intro Z1 φ1 H1 s1 rs1 v rv
  obtain ⟨psi, rfl, hpsi⟩ := s1.pre
  obtain ⟨a1, h1, rfl⟩ := rv
  rw [List.getElem?_append_left hnφ, ha] at h1
  cases h1
  have ha1 : (φ ++ psi)[n]? = some φ[n] := by rw [List.getElem?_append_left hnφ]; exact ha
  obtain ⟨hz1, kws1, hH1, hR1⟩ := rs1.cells n _ _ ha1 ec
  refine ⟨_, kws1, rfl, hH1, fun o => ?_⟩
  obtain ⟨rsL, sL⟩ := rs1.write (c := .ldct kvs) (o := .frz o (.dK kws1)) ha1 hz1 ⟨hz1, o, kws1, upd_same, hR1⟩ (fun _ _ z => by rw [hH1] at z; cases z)
  have S0 := s1.trans sL
  have hda : φ[n] ∈ φ := List.getElem_mem hnφ
  have hkl : kvs.length = kws1.length := by have := congrArg List.length (repk_keys hR1); simpa using this
  refine for_keys (D := unE D φ[n]) (fun j σ' H' => LkI X.K g b (unE D φ[n]).nx Z1 (φ ++ psi) (upd H1 φ[n] (.frz o (.dK kws1))) η9 st9 ((kvs.map fun kv => keyD kv.1).drop j) σ' H') ?_ (fun j σ' H' _ hp => ?_) (fun j k v σ' H' hkv hp => ?_) (fun σ' H' hp => ?_)
  · rw [List.drop_zero]
    refine ⟨Z1, φ ++ psi, η, st.set n (.ldct kvs), rsL, sl.mono s1, .refl, e9, fun Z' φ' H' σ' rs' sl' s' => ?_⟩
    obtain ⟨psi', rfl, hpsi'⟩ := s'.pre
    have ha' : ((φ ++ psi) ++ psi')[n]? = some φ[n] := by rw [List.getElem?_append_left (by rw [List.length_append]; omega)]; exact ha1
    obtain ⟨hz', o', kws', hH', hR'⟩ := rs'.cells n _ _ ha' en'
    have S := S0.trans s'
    refine ⟨o', kws', hH', ?_⟩
    have rsU := rs'.writeR (c := .dct kvs') (o := .dK kws') ha' hz' ⟨hz', kws', upd_same, hR'⟩
    refine af Z' _ _ ⟨S.hz, S.pre, fun b u hb hn ht => ?_, S.zn, fun b hb => ?_, fun b q u hb => ?_⟩ rsU σ' sl'
    · have h9 := S.fr b u hb hn ht
      rw [upd_ne (by rintro rfl; exact hn hda)]; exact h9
    · by_cases q : b = φ[n]
      · subst q
        exact (hb.no upd_same dat_dK.1).elim
      · exact S.up b fun u hu => hb u (by rw [upd_ne q]; exact hu)
    · have h9 := S.lk b q u hb
      rw [upd_ne (by rintro rfl; rw [hH] at hb; cases hb)]; exact h9
  · obtain ⟨_, _, _, _, _, _, s, _⟩ := hp
    exact s.lk _ _ _ upd_same
  · have hj : j < kvs.length := by rw [hkl]; exact (List.getElem?_eq_some_iff.mp hkv).1
    have hkj : (kvs.map fun kv => keyD kv.1)[j]? = some (keyD k) := by
      have h9 : (kvs.map fun kv => kv.1)[j]? = some k := by rw [repk_keys hR1, List.getElem?_map, hkv]; rfl
      rw [List.getElem?_map] at h9 ⊢
      cases q : kvs[j]? with
      | none => rw [q] at h9; cases h9
      | some x => rw [q] at h9; cases h9; rfl
    rw [drop_cons hkj] at hp
    exact hp.turn rfl fun Z => key_rep k
  · rw [List.drop_eq_nil_of_le (by rw [List.length_map, hkl]; exact Nat.le_refl _)] at hp
    exact hp.done
end
end M
end
section
set_option Elab.async false
set_option linter.all false
set_option maxRecDepth 100000
set_option maxHeartbeats 0
namespace M
open PySem L2
def fpV (i : Nat) (η : Et) (st : Sr) : Option Nat := match η[i]? with
  | some (some (.cell n)) => some n
  | _ => none
theorem fpV_ok {i : Nat} {η : Et} {st : Sr} {n : Nat} (h : fpV i η st = some n) : dVar i η st = .ok (.cell n, st) := by
  unfold fpV at h
  split at h
  · rename_i m e
    cases h
    unfold dVar
    rw [e]
  · cases h
def fpA (f : Str) (cs : List Str) (j : Nat) (η : Et) (st : Sr) : Option Nat := match η[j]? with
  | some (some d) => (match fldD f cs st d with
    | some (.cell n) => some n
    | _ => none)
  | _ => none
theorem fpA_ok {f : Str} {cs : List Str} {j : Nat} {η : Et} {st : Sr} {n : Nat} (h : fpA f cs j η st = some n) : dFld f cs (dVar j) η st = .ok (.cell n, st) := by
  unfold fpA at h
  split at h
  · rename_i d e
    split at h
    · rename_i m e2
      cases h
      unfold dFld dVar
      rw [e]
      show (match fldD f cs st d with
        | some d' => R.ok (d', st)
        | none => .stuck) = _
      rw [e2]
    · cases h
  · cases h
/-- list(d) of a dict, also a frozen one -/
def listKP (ds : List D) (st : Sr) : R (D × Sr) := match ds with
  | [d] => (match peek st d with
    | some (.dct kvs) => .ok (.cell st.length, st ++ [.lst (kvs.map fun kv => keyD kv.1)])
    | _ => .stuck)
  | _ => .stuck
theorem c_listKP {X : Cx} {W : WX} (hc : X.calm = true) : CallR X (.type "list") (rMA X.K W listKP) := by
  intro pins s σ H xs us Q I r ⟨ds, Z, φ, st, rs, rdd, af⟩
  unfold listKP at af
  split at af
  rotate_left
  · exact af.elim
  rename_i d
  obtain ⟨v, rfl, rd⟩ := rdd.one
  split at af
  rotate_left
  · exact af.elim
  rename_i kvs e
  obtain ⟨a, kws, h1, h2, h3⟩ := peek_pk rs e rd
  subst h1
  exact call_list_dK hc pins s σ H _ us Q I r ⟨a, kws, rfl, h2, fun q hq => af.lst rs hq (keys_rep h3)⟩
end M
end
section
set_option Elab.async false
set_option linter.all false
set_option maxRecDepth 100000
set_option maxHeartbeats 0
namespace M
open PySem L2
section
variable {K : PySem.W.Frag} {Z : Hp} {nk : NestedKey}
theorem RepN.length : ∀ {kvs : List (P × P)} {xs : List NE}, RepN K Z kvs xs → kvs.length = xs.length
  | [], xs, h => by rw [RepN] at h; subst h; rfl
  | (k, p) :: r, xs, h => by
    rw [RepN] at h
    obtain ⟨_, _, _, _, ws, rfl, _, _, _, _, _, h7⟩ := h
    simp [RepN.length h7]
theorem RepN.get : ∀ {kvs : List (P × P)} {xs : List NE} {i : Nat} {k p : P}, RepN K Z kvs xs → kvs[i]? = some (k, p) → ∃ nk ka u v, xs[i]? = some (nk, ka, u) ∧ nkP k = some nk ∧ nk.depth ≤ 8 ∧ Rep K Z k (.ref ka) ∧ RelV v u ∧ Rep K Z p v
  | [], xs, i, k, p, h, e => by simp at e
  | (k', p') :: r, xs, i, k, p, h, e => by
    rw [RepN] at h
    obtain ⟨nk, ka, u, v, ws, rfl, h2, h3, h4, h5, h6, h7⟩ := h
    cases i with
    | zero => simp at e; obtain ⟨rfl, rfl⟩ := e; exact ⟨nk, ka, u, v, rfl, h2, h3, h4, h5, h6⟩
    | succ i => simpa using RepN.get h7 (by simpa using e)
theorem RepN.mem : ∀ {kvs : List (P × P)} {xs : List NE}, RepN K Z kvs xs → ∀ x ∈ xs, ∃ kp, nkP kp = some x.1 ∧ x.1.depth ≤ 8 ∧ Rep K Z kp (.ref x.2.1)
  | [], xs, h, x, hx => by rw [RepN] at h; subst h; cases hx
  | (k, p) :: r, xs, h, x, hx => by
    rw [RepN] at h
    obtain ⟨nk, ka, u, v, ws, rfl, h2, h3, h4, h5, h6, h7⟩ := h
    rcases List.mem_cons.mp hx with rfl | hx
    · exact ⟨k, h2, h3, h4⟩
    · exact RepN.mem h7 x hx
theorem RepN.keys : ∀ {kvs : List (P × P)} {xs : List NE}, RepN K Z kvs xs → Reps K Z (kvs.map (·.1)) (xs.map fun x => .ref x.2.1)
  | [], xs, h => by rw [RepN] at h; subst h; exact .nil
  | (k, p) :: r, xs, h => by
    rw [RepN] at h
    obtain ⟨nk, ka, u, v, ws, rfl, h2, h3, h4, h5, h6, h7⟩ := h
    exact .cons h4 (RepN.keys h7)
end
end M
end
section
set_option Elab.async false
set_option linter.all false
set_option maxRecDepth 100000
set_option maxHeartbeats 0
namespace M
open PySem L2
def dnOf (st : Sr) (d : D) : Option (List (P × P)) := match d with
  | .fz (.dn kvs) => some kvs
  | .fz _ => none
  | .cell n => match st[n]? with
    | some (.dn kvs) => some kvs
    | some (.frz (.dn kvs)) => some kvs
    | _ => none
end M
end
section
set_option Elab.async false
set_option linter.all false
set_option maxRecDepth 100000
set_option maxHeartbeats 0
namespace M
open PySem L2 PyProof.Rows
end M
end
section
set_option Elab.async false
set_option linter.all false
set_option maxRecDepth 100000
set_option maxHeartbeats 0
namespace M
open PySem L2
section
variable {K : PySem.W.Frag} {d : Addr} {o : Obj} {xs : List NE} {kvs : List (P × P)}
/-- a frozen dict: where it stands, its entries -/
def FzN (K : PySem.W.Frag) (d : Addr) (o : Obj) (xs : List NE) (kvs : List (P × P)) (Z : Hp) : Prop := Z d = some (DnO d o) ∧ RepN K Z kvs xs
theorem FzN.mono {Z Z' : Hp} (s : Same Z Z') (h : FzN K d o xs kvs Z) : FzN K d o xs kvs Z' := ⟨s _ _ h.1, RepN.mono s _ _ h.2⟩
theorem FzN.at_ {Z : Hp} (h : FzN K d o xs kvs Z) {i : Nat} (hi : i < kvs.length) : ∃ y v, xs[i]? = some y ∧ RelV v y.2.2 ∧ Rep K Z kvs[i].1 (.ref y.2.1) ∧ Rep K Z kvs[i].2 v := by
  obtain ⟨nk, ka, u, v, h1, _, _, h4, h5, h6⟩ := h.2.get (i := i) (k := kvs[i].1) (p := kvs[i].2) (by rw [List.getElem?_eq_getElem hi])
  exact ⟨(nk, ka, u), v, h1, h5, h4, h6⟩
end
end M
end
section
set_option Elab.async false
set_option linter.all false
set_option maxRecDepth 100000
set_option maxHeartbeats 0
namespace M
open PySem L2 RZ
end M
end
section
set_option Elab.async false
set_option linter.all false
set_option maxRecDepth 100000
set_option maxHeartbeats 0
namespace M
open PySem L2 RZ
end M
end
section
set_option Elab.async false
set_option linter.all false
set_option maxRecDepth 100000
set_option maxHeartbeats 0
namespace M
open PySem PySem.Spec PyProof.Rows L2
def strsP : List P → Option (List Str)
  | [] => some []
  | .str s :: r => (strsP r).map (s :: ·)
  | _ => none
def srtS (ss : List Str) : List Str := ss.mergeSort (PySem.W.dataLe false PyData.str)
/-- frozen -/
def sortSF (ds : List D) (st : Sr) : R (D × Sr) := match ds with
  | [d] => (match ((peek st d).bind lstP').bind strsP with
    | some ss => .ok (.fz (.lst ((srtS ss).map P.str)), st)
    | none => .stuck)
  | _ => .stuck
/-- a list of one's own -/
def sortSC (ds : List D) (st : Sr) : R (D × Sr) := match ds with
  | [d] => (match ((peek st d).bind lstP').bind strsP with
    | some ss => .ok (.cell st.length, st ++ [.lst ((srtS ss).map P.str)])
    | none => .stuck)
  | _ => .stuck
section
variable {X : Cx} {W : WX}
theorem strsP_eq : ∀ {ps : List P} {ss : List Str}, strsP ps = some ss → ps = ss.map P.str
  | [], ss, h => by cases h; rfl
  | .str s :: r, ss, h => by
    unfold strsP at h
    cases e : strsP r with
    | none => rw [e] at h; cases h
    | some ts => rw [e] at h; cases h; rw [List.map_cons, strsP_eq e]
  | .non :: r, ss, h => by cases h
  | .bl _ :: r, ss, h => by cases h
  | .int _ :: r, ss, h => by cases h
  | .tup _ :: r, ss, h => by cases h
  | .lst _ :: r, ss, h => by cases h
  | .rol _ :: r, ss, h => by cases h
  | .dct _ :: r, ss, h => by cases h
  | .obj _ _ :: r, ss, h => by cases h
  | .cls _ :: r, ss, h => by cases h
  | .dn _ :: r, ss, h => by cases h
theorem srs_eq {K : PySem.W.Frag} {Z : Hp} : ∀ {is : List Str} {vs : List V}, Reps K Z (is.map P.str) vs → vs = is.map V.str
  | [], vs, h => by rw [List.map_nil, Reps] at h; exact h
  | i :: r, vs, h => by
    rw [List.map_cons, Reps] at h
    obtain ⟨v, ws, rfl, h1, h2⟩ := h
    rw [Rep] at h1
    rw [List.map_cons, h1, srs_eq h2]
theorem srs_reps {K : PySem.W.Frag} {Z : Hp} : ∀ (is : List Str), Reps K Z (is.map P.str) (is.map V.str)
  | [] => Reps.nil
  | i :: r => Reps.cons (by rw [Rep]) (srs_reps r)
def ItS (v : Value) (s : Str) : Prop := ∃ t, v = .str s t
theorem itsS : ∀ {ss : List Str} {us : List Value}, Vals (ss.map V.str) us → PySem.W.EachIs ItS us ss
  | [], us, h => by cases h; exact .nil
  | s :: ss, us, h => by
    cases h with
    | cons h1 h2 => exact .cons h1 (itsS h2)
theorem sitS : ∀ {us : List Value} {ss : List Str}, PySem.W.EachIs ItS us ss → Vals (ss.map V.str) us
  | _, _, .nil => .nil
  | _, _, .cons h1 h2 => .cons h1 (sitS h2)
theorem sort_strs {j : Nat} (hr : Room j X.A) {pins : List (Addr × Obj)} {s : Shared} {σ : L2.St} {H : Hp} {ss : List Str} {la : Addr} {Q : Value → Shared → Prop} (I : Inv X pins σ H s) (hls : SqL X.K H la (ss.map V.str))
    (hq : ∀ (out : List Value) (ep : Nat) (h' : Heap), (srtS ss).length ≤ sizeLine → Vals ((srtS ss).map V.str) out → (∀ b o, s.heap.get? b = some o → h'.get? b = some o) → h'.get? (s.heap.objs.size + 1) = some (PyProof.Rows.seqObj "list" (List.toArray out) ep) → Q (.ref (s.heap.objs.size + 1)) { s with heap := h' }) :
    wpAny (model X.prog X.w) X.A (call (.builtin "sorted") [.ref la]) Q X.xe s := by
  obtain ⟨its, ri, hl, hz⟩ := I.list hls
  have hE := itsS ri
  have hlen : ss.length ≤ sizeLine := by rw [List.length_map] at hz; exact hz
  have hun := hr.un
  refine PySem.W.sorted_data (β := Str) (R := ItS) (enc := PyData.str) hl.isList hE (hE.mono fun v x ⟨t, e⟩ => ⟨[], by rw [e]; exact .str _ _⟩) ?_ (PySem.W.Sortable.others fun b => ⟨(by intro h; cases h), fun xs h => by cases h⟩) hlen (fun x hx => ?_) fun out hlen2 eo => ?_
  · intro d hd d' hd'
    obtain ⟨x, _, rfl⟩ := List.mem_map.mp hd
    obtain ⟨y, _, rfl⟩ := List.mem_map.mp hd'
    rfl
  · show X.A.units + 2 + (PyData.str x).depth < cLine
    have : (PyData.str x).depth = 0 := rfl
    omega
  · obtain ⟨ep, he'⟩ := PyProof.Rows.sortedAll_at s.heap its out.toArray
    exact hq out ep _ (by unfold srtS; rw [List.length_mergeSort]; exact hlen) (sitS eo) (fun _ _ => PyProof.Rows.sortedAll_old) he'
theorem c_sortSF {j : Nat} (hr : Room j X.A) : CallR X (.builtin "sorted") (rMA X.K W sortSF) := by
  intro pins s σ H xs us Q I r ⟨ds, Z, φ, st, rs, rdd, af⟩
  unfold sortSF at af
  split at af
  rotate_left
  · exact af.elim
  rename_i d
  split at af
  rotate_left
  · exact af.elim
  rename_i ss e0
  obtain ⟨ps, e1, e2⟩ := Option.bind_eq_some_iff.mp e0
  obtain ⟨v, rfl, rd⟩ := rdd.one
  obtain ⟨u, rfl, ru⟩ := vals1 r
  obtain ⟨la, lvs, rfl, hls, hli⟩ := lst_of rs rd e1
  obtain rfl : u = Value.ref la := ru
  rw [strsP_eq e2] at hli
  rw [srs_eq hli] at hls
  refine sort_strs hr I hls fun out ep h' hlen hv hk he' => ?_
  refine ⟨.ref _, upd H (s.heap.objs.size + 1) (.lst ((srtS ss).map V.str)), I.laid (t' := s.toks) hk (Nat.le_succ _) ⟨by rw [List.length_map]; exact hlen, out, ep, hv, he'⟩, rfl, ?_⟩
  refine af.newZ rs (I.hok.fresh (Nat.le_succ _)) fun sz => ?_
  rw [Rep]
  exact ⟨_, _, rfl, upd_same, srs_reps _⟩
theorem c_sortSC {j : Nat} (hr : Room j X.A) : CallR X (.builtin "sorted") (rMA X.K W sortSC) := by
  intro pins s σ H xs us Q I r ⟨ds, Z, φ, st, rs, rdd, af⟩
  unfold sortSC at af
  split at af
  rotate_left
  · exact af.elim
  rename_i d
  split at af
  rotate_left
  · exact af.elim
  rename_i ss e0
  obtain ⟨ps, e1, e2⟩ := Option.bind_eq_some_iff.mp e0
  obtain ⟨v, rfl, rd⟩ := rdd.one
  obtain ⟨u, rfl, ru⟩ := vals1 r
  obtain ⟨la, lvs, rfl, hls, hli⟩ := lst_of rs rd e1
  obtain rfl : u = Value.ref la := ru
  rw [strsP_eq e2] at hli
  rw [srs_eq hli] at hls
  refine sort_strs hr I hls fun out ep h' hlen hv hk he' => ?_
  have hp : H (s.heap.objs.size + 1) = none := I.hok.fresh (Nat.le_succ _)
  refine ⟨.ref _, upd H (s.heap.objs.size + 1) (.lst ((srtS ss).map V.str)), I.laid (t' := s.toks) hk (Nat.le_succ _) ⟨by rw [List.length_map]; exact hlen, out, ep, hv, he'⟩, rfl, ?_⟩
  exact af.lst rs hp (srs_reps _)
end
end M
end
section
set_option Elab.async false
set_option linter.all false
namespace Kd
def hgo : List Int → List Int → List Int
  | acc, [] => acc
  | acc, x :: r => if x ∈ acc then hgo acc r else hgo (acc ++ [x]) r
def heads (l : List Int) : List Int := hgo [] l
end Kd
end
section
set_option Elab.async false
set_option linter.all false
set_option maxRecDepth 100000
set_option maxHeartbeats 0
namespace M
open PySem PySem.Spec PyProof.Rows L2
end M
end
section
set_option Elab.async false
set_option linter.all false
set_option maxRecDepth 100000
set_option maxHeartbeats 0
namespace M
open PySem PySem.Spec PyProof.Rows L2
end M
end
section
set_option Elab.async false
set_option linter.all false
set_option maxRecDepth 100000
set_option maxHeartbeats 0
namespace M
open PySem L2
theorem rep_strD {K : PySem.W.Frag} {Z : Hp} {φ : List Addr} {y : Str} : RepD K Z φ (.fz (.str y)) (.str y) := by
  show Rep K Z (.str y) (.str y)
  rw [Rep]
def ninSO (d e : D) (st : Sr) : R (D × Sr) := match d, e with
  | .fz (.str i), .fz (.str j) => .ok (.fz (.bl (!(!(PySem.Builtin.Str.occurrences j i 0 j.length 1).isEmpty))), st)
  | _, _ => .stuck
def dForS (f : DE) (g : DG) (b : DS) : DS := fun η st => (f η st).bind fun a => match a.1 with
  | .fz (.str x) => loopD g b (charsP x) η a.2
  | _ => .stuck
theorem for_str {x : Str} {g : TG} {tb : TS} {D : Ends} {σ : St} {H : Hp} (Pv : Nat → St → Hp → Prop) (h0 : Pv 0 σ H)
    (hs : ∀ (i : Nat) (c : Nat) σ H, x.cps[i]? = some c → Pv i σ H → g (.str ⟨#[c]⟩) σ H fun σ2 H2 => tb { D with nx := Pv (i + 1), ct := Pv (i + 1), bk := D.nx } σ2 H2) (hd : ∀ σ H, Pv x.cps.size σ H → D.nx σ H) :
    ∃ W : Nat → Nat → St → Hp → Prop, (∃ m, W 0 m σ H) ∧ ∀ i m σ H, W i m σ H →
      ((Its x).stop i H ∧ D.nx σ H) ∨ ((Its x).go i H ∧ ∃ N : St → Hp → Prop, (∀ σ' H', N σ' H' → ∃ m', m' < m ∧ W (i + 1) m' σ' H') ∧ ∀ v H', (Its x).yld i H v H' → g v σ H' fun σ2 H2 => tb { D with nx := N, ct := N, bk := D.nx } σ2 H2) := by
  refine ⟨fun i m σ H => m = x.cps.size - i ∧ i ≤ x.cps.size ∧ Pv i σ H, ⟨x.cps.size, by simp, Nat.zero_le _, h0⟩, ?_⟩
  rintro i m σ H ⟨rfl, hi, p⟩
  by_cases hlt : i < x.cps.size
  · refine .inr ⟨hlt, Pv (i + 1), fun σ' H' p' => ⟨x.cps.size - (i + 1), by omega, rfl, hlt, p'⟩, fun v H' y => ?_⟩
    obtain ⟨e, c, hc, ev⟩ := y
    subst e; subst ev
    exact hs i c σ _ hc p
  · have e : i = x.cps.size := by omega
    subst e
    exact .inl ⟨Nat.le_refl _, hd σ H p⟩
section
variable {X : Cx} {W : WX} {a b e l tg : Expr} {pos p2 : Pos} {f : DE} {g : DG} {bd : DS} {body : List Stmt}
theorem rep_blD {K : PySem.W.Frag} {Z : Hp} {φ : List Addr} {y : Bool} : RepD K Z φ (.fz (.bl y)) (.bl y) := by
  show Rep K Z (.bl y) (.bl y)
  rw [Rep]
theorem o_ninS : OpR X (compareOp .NotIn) (rM X.K W ninSO) := by
  intro pins s σ H x y v u Q I rx ry ⟨d, e, Z, φ, st, rs, rd, re, af⟩
  unfold ninSO at af
  split at af
  · rename_i i j
    obtain rfl := fz_str rd
    obtain rfl := fz_str re
    exact op_notin_str pins s σ H _ _ v u Q I rx ry ⟨i, j, rfl, rfl, af.here rs rep_blD⟩
  · exact af.elim
theorem ds_forS (hp : PassesOwn (model X.prog X.w) X.A X.env X.xe) (hc : X.calm = true) (hl : PE X l (tE X.K W f)) (hg : PG X tg (tG X.K g)) (hb : PSs X body (tS X.K W bd)) (hs : ∀ x, foldedSetIterable l X.env x = pure x := by intro _; rfl) :
    PS X (.For tg l body [] pos) (tS X.K W (dForS f g bd)) := by
  refine (ps_for hp hc (pi_str hl) hg hb hs).to fun D σ H hh => ?_
  obtain ⟨Z, φ, η, st, rs, sl, af⟩ := hh
  refine ⟨Z, φ, η, st, rs, sl, af.bind.mono fun a Z' φ' H' t g' rs' v r => ?_⟩
  split at g'
  · rename_i x ex
    rw [ex] at r
    obtain rfl := fz_str r
    refine ⟨x, rfl, ?_⟩
    refine for_str (x := x) (fun i σ' H' => LpI X.K W g bd D (fun _ => True) ((charsP x).drop i) σ' H') ⟨Z', φ', η, a.2, rs', sl.mono t, trivial, by rw [List.drop_zero]; exact g'⟩ (fun i c σ' H' hx hh => ?_) (fun σ' H' hh => ?_)
    · rw [drop_cons (charsP_at hx)] at hh
      exact hh.turn (fun _ _ _ _ => trivial) fun Z _ _ => by rw [Rep]
    · rw [← charsP_len, List.drop_length] at hh
      exact hh.done
  · exact g'.elim
theorem de_strG {x z : Str} (hm : ∃ t, X.mg x = some (.str z t)) (hg : Gl X x := by rfl) (hd : (x == ("__debug__" : Str)) = false := by decide) : PE X (.Name x pos) (tE X.K W (dK (.str z))) := by
  obtain ⟨t, hm⟩ := hm
  refine (pe_glob (v := .str z) hg hm ⟨t, rfl⟩ hd).to fun σ H Q h => ?_
  obtain ⟨Z, φ, η, st, rs, sl, af⟩ := h
  exact Af.here (show Af X.K W Z φ H (.ok (D.fz (.str z), st)) (GE X.K Q) from af) rs rep_strD
theorem de_intG {x : Str} {i : Int} (hm : ∃ t, X.mg x = some (.int i t)) (hg : Gl X x := by rfl) (hd : (x == ("__debug__" : Str)) = false := by decide) : PE X (.Name x pos) (tE X.K W (dK (.int i))) := by
  obtain ⟨t, hm⟩ := hm
  refine (pe_glob (v := .int i) hg hm ⟨t, rfl⟩ hd).to fun σ H Q h => ?_
  obtain ⟨Z, φ, η, st, rs, sl, af⟩ := h
  exact Af.here (show Af X.K W Z φ H (.ok (D.fz (.int i), st)) (GE X.K Q) from af) rs rep_int
end
end M
end
section
set_option Elab.async false
set_option linter.all false
set_option maxRecDepth 100000
set_option maxHeartbeats 0
namespace M
open PySem L2 PySem.Spec PyProof.Rows
end M
end
section
set_option Elab.async false
set_option linter.all false
set_option maxRecDepth 100000
set_option maxHeartbeats 0
namespace M
open PySem L2
open Classical in
noncomputable def lcC (n : Nat) (zs : List P) (i : Nat) (t : DT) (fe : DE) (η : Et) : List P → List P → Sr → R (List P × Sr)
  | [], acc, st => if st[n]? = some (.lst zs) then .ok (acc, st) else .stuck
  | x :: xs, acc, st => if st[n]? = some (.lst zs) then ((t (η.set i (some (.fz x))) st).bind fun a => if a.1 = true then (fe (η.set i (some (.fz x))) a.2).bind fun b => match toP b.2 b.1 with
      | some (p, st2) => if acc.length < szL then lcC n zs i t fe η xs (acc ++ [p]) st2 else .stuck
      | none => .stuck
    else lcC n zs i t fe η xs acc a.2) else .stuck
theorem lcC_at {n : Nat} {zs ys acc : List P} {i : Nat} {t : DT} {fe : DE} {η : Et} {st : Sr} {r : List P × Sr} (h : lcC n zs i t fe η ys acc st = .ok r) : st[n]? = some (.lst zs) := by
  cases ys with
  | nil =>
    unfold lcC at h
    split at h
    · assumption
    · cases h
  | cons x ys =>
    unfold lcC at h
    split at h
    · assumption
    · cases h
section
variable {X : Cx} {W : WX}
def LcKC (K : PySem.W.Frag) (W : WX) (n : Nat) (ad : Addr) (zs : List P) (i : Nat) (t : DT) (fe : DE) (η : Et) (Q : VK) (σ : St) (Z0 : Hp) (φ0 : List Addr) (H0 : Hp) (p : Addr) (ys : List P) (H : Hp) : Prop :=
  ∃ Z φ st acc, RS K Z φ st H ∧ Slots K Z φ η σ ∧ (φ[n]? = some ad ∧ st[n]? = some (.lst zs)) ∧ Mk1 K Z φ H p acc ∧ Step Z0 φ0 H0 Z φ H ∧ Af K W Z0 φ0 H0 (lcZ (lcC n zs i t fe η ys acc st)) (GE K Q)
variable {K : PySem.W.Frag} {n : Nat} {ad : Addr} {zs : List P} {i : Nat} {t : DT} {fe : DE} {η : Et} {Q : VK} {σ : St} {Z0 H0 : Hp} {φ0 : List Addr} {p : Addr}
theorem LcKC.done {H : Hp} (h0 : H0 p = none) (h : LcKC K W n ad zs i t fe η Q σ Z0 φ0 H0 p [] H) : Q (.ref p) H := by
  obtain ⟨Z, φ, st, acc, rs, sl, ex, m, s, af⟩ := h
  obtain ⟨vs, h1, h2⟩ := m.at_
  have af2 : Af K W Z0 φ0 H0 (.ok (.fz (.lst acc), st)) (GE K Q) := by unfold lcC at af; rw [if_pos ex.2] at af; exact af
  have sz : Same Z (upd Z p (.lst vs)) := fun b u hb => by rw [upd_ne (by rintro rfl; rw [m.zn] at hb; cases hb)]; exact hb
  refine af2 (upd Z p (.lst vs)) φ H ⟨s.hz.trans sz, s.pre, s.fr, fun b hb => ?_, s.up, s.lk⟩ ⟨fun b u hb => ?_, rs.len, rs.nd, fun j b c hj hc => ?_, rs.tb, fun b ps z => ?_⟩ (.ref p) ?_
  · by_cases q : b = p
    · subst q; exact .inr (.inl (.of h0))
    · rw [upd_ne q] at hb; exact s.zn b hb
  · by_cases q : b = p
    · subst q; rw [upd_same] at hb; cases hb; exact h1
    · rw [upd_ne q] at hb; exact rs.same b u hb
  · have nb : b ≠ p := by rintro rfl; exact m.out (List.mem_of_getElem? hj)
    exact (rs.cells j b c hj hc).keep sz ⟨[], by simp⟩ (fun q => by rw [upd_ne nb]; exact (rs.cells j b c hj hc).free q) fun u hu _ => hu
  · by_cases q : b = p
    · subst q; rw [upd_same] at z; cases z
    · rw [upd_ne q] at z; exact rs.zd b ps z
  · show Rep _ _ _ _
    rw [Rep]
    exact ⟨p, vs, rfl, upd_same, h2.mono sz⟩
theorem LcKC.turn (h0 : H0 p = none) {x : P} {ys : List P} {H : Hp} {v : V} (h : LcKC K W n ad zs i t fe η Q σ Z0 φ0 H0 p (x :: ys) H) (hv : ∀ Z φ st, RS K Z φ st H → φ[n]? = some ad → st[n]? = some (.lst zs) → Rep K Z x v) :
    tT K W0 t (σ.set i (some v)) H (fun b H3 => if b = true then tE K W0 fe (σ.set i (some v)) H3 (fun y H4 => ∃ acc, H4 p = some (.lst acc) ∧ acc.length < sizeLine ∧ LcKC K W n ad zs i t fe η Q σ Z0 φ0 H0 p ys (upd H4 p (.lst (acc ++ [y])))) else LcKC K W n ad zs i t fe η Q σ Z0 φ0 H0 p ys H3) := by
  obtain ⟨Z, φ, st, acc, rs, sl, ex, m, s, af⟩ := h
  have slv : Slots K Z φ (η.set i (some (.fz x))) (σ.set i (some v)) := sl.set (hv Z φ st rs ex.1 ex.2)
  refine ⟨Z, φ, _, st, rs, slv, ?_⟩
  obtain ⟨⟨acc', st'⟩, he⟩ := lcZ_some af
  have he0 := he
  unfold lcC at he
  rw [if_pos ex.2] at he
  cases e1 : t (η.set i (some (.fz x))) st with
  | exc => rw [e1] at he; cases he
  | stuck => rw [e1] at he; cases he
  | ok a =>
    rw [e1] at he
    intro Z1 φ1 H1 s1 rs1
    have he1 : (if a.1 = true then (fe (η.set i (some (.fz x))) a.2).bind fun b => match toP b.2 b.1 with
      | some (p, st2) => if acc.length < szL then lcC n zs i t fe η ys (acc ++ [p]) st2 else .stuck
      | none => .stuck
    else lcC n zs i t fe η ys acc a.2) = .ok (acc', st') := he
    have m1 := m.step s1
    by_cases ha : a.1 = true
    · rw [if_pos ha] at he1 ⊢
      refine ⟨Z1, φ1, _, a.2, rs1, slv.mono s1, ?_⟩
      cases e2 : fe (η.set i (some (.fz x))) a.2 with
      | exc => rw [e2] at he1; cases he1
      | stuck => rw [e2] at he1; cases he1
      | ok b =>
        rw [e2] at he1
        intro Z2 φ2 H2 s2 rs2 y ry
        have he2 : (match toP b.2 b.1 with
          | some (p, st2) => if acc.length < szL then lcC n zs i t fe η ys (acc ++ [p]) st2 else .stuck
          | none => .stuck) = .ok (acc', st') := he1
        have m2 := m1.step s2
        obtain ⟨vs, h1, h2⟩ := m2.at_
        cases e3 : toP b.2 b.1 with
        | none => rw [e3] at he2; cases he2
        | some pr =>
          obtain ⟨q, st3⟩ := pr
          rw [e3] at he2
          dsimp only at he2
          split at he2
          · rename_i hz
            obtain ⟨Z3, f3, rs3, r3⟩ := toP_ok rs2 e3 ry
            have m3 := m2.step f3.step
            obtain ⟨rs4, m4⟩ := m3.push rs3 h1 r3
            have s3 := ((s.trans s1).trans s2).trans f3.step
            refine ⟨vs, h1, by rw [← h2.length, ← szL_eq]; exact hz, Z3, φ2, st3, acc ++ [q], rs4, ((sl.mono s1).mono s2).mono f3.step, ⟨by obtain ⟨psi, rfl⟩ := ((s1.trans s2).trans f3.step).app; rw [List.getElem?_append_left (List.getElem?_eq_some_iff.mp ex.1).1]; exact ex.1, lcC_at he2⟩, m4, ?_, ?_⟩
            · refine ⟨s3.hz, s3.pre, fun b o hb hn ht => ?_, s3.zn, fun b hb => ?_, fun b q u hb => by rw [upd_ne (by rintro rfl; rw [h0] at hb; cases hb)]; exact s3.lk b q u hb⟩
              · rw [upd_ne]
                · exact s3.fr b o hb hn ht
                · rintro rfl
                  rw [h0] at hb; cases hb
              · by_cases q : b = p
                · subst q; exact .of h0
                · exact s3.up b fun o ho => hb o (by rw [upd_ne q]; exact ho)
            · rw [he2]; rw [he0] at af; exact af
          · cases he2
    · rw [if_neg ha] at he1 ⊢
      exact ⟨Z1, φ1, a.2, acc, rs1, sl.mono s1, ⟨by obtain ⟨psi, rfl⟩ := s1.app; rw [List.getElem?_append_left (List.getElem?_eq_some_iff.mp ex.1).1]; exact ex.1, lcC_at he1⟩, m1, s.trans s1, by rw [he1]; rw [he0] at af; exact af⟩
end
end M
end
section
set_option Elab.async false
set_option linter.all false
set_option maxRecDepth 100000
set_option maxHeartbeats 0
namespace M
open PySem L2 ClX
open PySem.W (Looks findIn clsIn looks_clsIn looks_findIn)
end M
end
section
set_option Elab.async false
set_option linter.all false
set_option maxRecDepth 100000
set_option maxHeartbeats 0
namespace M
open PySem L2
end M
end
section
set_option Elab.async false
set_option linter.all false
set_option maxRecDepth 100000
set_option maxHeartbeats 0
namespace M
open PySem L2
end M
end
section
set_option Elab.async false
set_option linter.all false
set_option maxRecDepth 100000
set_option maxHeartbeats 0
namespace M
open PySem L2
end M
end
section
set_option Elab.async false
set_option linter.all false
set_option maxRecDepth 100000
set_option maxHeartbeats 0
namespace M
open PySem L2 ClX
end M
end
section
set_option Elab.async false
set_option linter.all false
set_option maxRecDepth 100000
set_option maxHeartbeats 0
namespace M
open PySem L2 ClX
end M
end
section
set_option Elab.async false
set_option linter.all false
set_option maxRecDepth 100000
set_option maxHeartbeats 0
namespace M
open PySem L2
end M
end
section
set_option Elab.async false
set_option linter.all false
set_option maxRecDepth 100000
set_option maxHeartbeats 0
namespace M
open PySem L2
end M
end
section
set_option Elab.async false
set_option linter.all false
set_option maxRecDepth 100000
set_option maxHeartbeats 0
namespace M
open PySem L2
end M
end
section
set_option Elab.async false
set_option linter.all false
set_option maxRecDepth 100000
set_option maxHeartbeats 0
namespace G
open PySem L2 M
def top (i : Nat) : Stmt := PySem.Challenge.pw_movedstates_k05_what_the_gate_lets_in.main.body.getD i (.Pass ⟨0, 0, 0, 0⟩)
theorem xtab_nil {K : PySem.W.Frag} {y : Value} : ∀ c b, (c, b) ∈ ([] : List (Str × Bool)) → PySem.W.exmOne K (.ref (He.ga K c)) y = some b := fun _ _ h => by cases h
theorem xtab_cons {K : PySem.W.Frag} {y : Value} {c : Str} {b : Bool} {l : List (Str × Bool)} (h : PySem.W.exmOne K (.ref (He.ga K c)) y = some b) (r : ∀ c b, (c, b) ∈ l → PySem.W.exmOne K (.ref (He.ga K c)) y = some b) : ∀ c' b', (c', b') ∈ (c, b) :: l → PySem.W.exmOne K (.ref (He.ga K c')) y = some b' := fun c' b' hm => by
  rcases List.mem_cons.mp hm with e | e
  · cases e; exact h
  · exact r _ _ e
theorem xtb_nil {Q : Str → Bool → Prop} : ∀ c b, (c, b) ∈ ([] : List (Str × Bool)) → Q c b := fun _ _ h => by cases h
theorem xtb_cons {Q : Str → Bool → Prop} {c : Str} {b : Bool} {l : List (Str × Bool)} (h : Q c b) (r : ∀ c b, (c, b) ∈ l → Q c b) : ∀ c' b', (c', b') ∈ (c, b) :: l → Q c' b' := fun c' b' hm => by
  rcases List.mem_cons.mp hm with e | e
  · cases e; exact h
  · exact r _ _ e
theorem cs_nil {Q : Str → Prop} : ∀ c, ([] : List Str).contains c = true → Q c := fun _ h => by cases h
theorem cs_cons {Q : Str → Prop} {c : Str} {l : List Str} (h : Q c) (r : ∀ c, l.contains c = true → Q c) : ∀ c', (c :: l).contains c' = true → Q c' := fun c' hm => by
  rw [List.contains_cons, Bool.or_eq_true] at hm
  rcases hm with e | e
  · rw [beq_iff_eq.mp e]; exact h
  · exact r _ e
abbrev s_BadName_init : Stmt := inCls (top 2) 0
def d_BadName_init : DefC := ⟨"BadName", "__init__", "BadName.__init__", defArgs s_BadName_init, defBody s_BadName_init, defScope s_BadName_init⟩
abbrev s_l_stream : Stmt := top 12
noncomputable def b_l_stream_2 : DS := dSeq (dEx (dBM isLst appendO (dVar 1) (dCons (dBin modO (dAp int1O (dCons (dVar 4) (dNil))) (dK (.int 100))) (dNil)))) (dSeq (dAsg (dBin fdivO (dVar 4) (dK (.int 100))) (gNm 4)) (dIf (dTru (dBin eqO (dVar 4) (dK (.int 0)))) (dBrk) (dSkip)))
noncomputable def b_l_stream_1 : DS := dSeq (dAsg (dAp absO (dCons (dVar 3) (dNil))) (gNm 4)) (dSeq (dIf (dTru (dBin ltO (dVar 4) (dK (.int 1000000000000000000)))) (dSeq (dAsg (dBin modO (dAp int1O (dCons (dBin mulO (dVar 4) (dBin addO (dBin addO (dK (.int 6364136223846793005)) (dBin mulO (dK (.int 2)) (dVar 2))) (dAp int1O (dCons (dBin ltO (dVar 3) (dK (.int 0))) (dNil))))) (dNil))) (dK (.int 1000000000000000003))) (gNm 4)) (dAsg (dBin modO (dAp int1O (dCons (dBin mulO (dVar 4) (dBin addO (dVar 4) (dK (.int 1442695040888963407)))) (dNil))) (dK (.int 1000000000000000009))) (gNm 4))) (dSkip)) (dForR1 (dCons (dK (.int 60)) (dNil)) (gNm 5) b_l_stream_2))
noncomputable def b_l_stream : DS := dSeq (dAsg (dAp lstO (dNil)) (gNm 1)) (dSeq (dForE (dCons (dSl (dVar 0) (dNoPart) (dPart (dK (.int 63)))) (dNil)) (gTp [gNm 2, gNm 3]) b_l_stream_1) (dSeq (dEx (dBM isLst reverseO (dVar 1) dNil)) (dRet (dVar 1))))
noncomputable def F_l_stream : DF := runF 1 6 false b_l_stream
def d_l_stream : He.DefD := ⟨("_law_stream", none), "_law_stream", "_law_stream", defArgs s_l_stream, defBody s_l_stream, defScope s_l_stream, [], []⟩
abbrev s_l_draw : Stmt := top 13
noncomputable def b_l_draw : DS := dSeq (dIf (dTru (dBin eqO (dAp lenO (dCons (dVar 0) (dNil))) (dK (.int 0)))) (dRet (dK (.int 0))) (dSkip)) (dRet (dBin modO (dAp int1O (dCons (dBM isLst popO (dVar 0) dNil) (dNil))) (dVar 1)))
noncomputable def F_l_draw : DF := runF 2 2 true b_l_draw
def d_l_draw : He.DefD := ⟨("_law_draw", none), "_law_draw", "_law_draw", defArgs s_l_draw, defBody s_l_draw, defScope s_l_draw, [], []⟩
abbrev s_l_span : Stmt := top 16
noncomputable def b_l_span : DS := dSeq (dAsg (dCall F_l_draw (dCons (dVar 0) (dCons (dK (.int 12)) (dNil)))) (gNm 1)) (dSeq (dIf (dTru (dBin ltO (dVar 1) (dK (.int 10)))) (dRet (dBin modO (dAp int1O (dCons (dVar 1) (dNil))) (dK (.int 5)))) (dSkip)) (dSeq (dIf (dTru (dBin eqO (dVar 1) (dK (.int 10)))) (dRet (dCall F_l_draw (dCons (dVar 0) (dCons (dK (.int 100)) (dNil))))) (dSkip)) (dRet (dBin addF (dK (.int 100000000000000000000)) (dCall F_l_draw (dCons (dVar 0) (dCons (dK (.int 3)) (dNil))))))))
noncomputable def F_l_span : DF := runF 1 2 true b_l_span
def d_l_span : He.DefD := ⟨("_law_span", none), "_law_span", "_law_span", defArgs s_l_span, defBody s_l_span, defScope s_l_span, [], []⟩
abbrev s_l_wide : Stmt := top 14
noncomputable def b_l_wide_1 : DS := dAsg (dBin addF (dBin mulO (dVar 1) (dK (.int 100))) (dCall F_l_draw (dCons (dVar 0) (dCons (dK (.int 100)) (dNil))))) (gNm 1)
noncomputable def b_l_wide : DS := dSeq (dAsg (dK (.int 0)) (gNm 1)) (dSeq (dForR1 (dCons (dK (.int 11)) (dNil)) (gNm 2) b_l_wide_1) (dSeq (dIf (dTru (dBin eqO (dCall F_l_draw (dCons (dVar 0) (dCons (dK (.int 2)) (dNil)))) (dK (.int 1)))) (dRet (dUn negO (dVar 1))) (dSkip)) (dRet (dVar 1))))
noncomputable def F_l_wide : DF := runF 1 3 true b_l_wide
def d_l_wide : He.DefD := ⟨("_law_wide", none), "_law_wide", "_law_wide", defArgs s_l_wide, defBody s_l_wide, defScope s_l_wide, [], []⟩
abbrev s_l_value : Stmt := top 15
noncomputable def b_l_value : DS := dSeq (dIf (dTru (dBin ltO (dVar 1) (dK (.int 2)))) (dRet (dCall F_l_draw (dCons (dVar 0) (dCons (dK (.int 3)) (dNil))))) (dSkip)) (dSeq (dIf (dTru (dBin eqO (dVar 1) (dK (.int 2)))) (dRet (dCall F_l_draw (dCons (dVar 0) (dCons (dK (.int 6)) (dNil))))) (dSkip)) (dSeq (dIf (dTru (dBin eqO (dVar 1) (dK (.int 3)))) (dRet (dBin subO (dCall F_l_draw (dCons (dVar 0) (dCons (dK (.int 100)) (dNil)))) (dCall F_l_draw (dCons (dVar 0) (dCons (dK (.int 100)) (dNil)))))) (dSkip)) (dSeq (dIf (dTru (dBin eqO (dVar 1) (dK (.int 4)))) (dRet (dBin mulO (dBin subO (dCall F_l_draw (dCons (dVar 0) (dCons (dK (.int 3)) (dNil)))) (dCall F_l_draw (dCons (dVar 0) (dCons (dK (.int 2)) (dNil))))) (dK (.int 100000000000000000000)))) (dSkip)) (dRet (dCall F_l_wide (dCons (dVar 0) (dNil)))))))
noncomputable def F_l_value : DF := runF 2 2 true b_l_value
def d_l_value : He.DefD := ⟨("_law_value", none), "_law_value", "_law_value", defArgs s_l_value, defBody s_l_value, defScope s_l_value, [], []⟩
abbrev s_l_step : Stmt := top 17
noncomputable def b_l_step : DS := dSeq (dAsg (dCall F_l_draw (dCons (dVar 0) (dCons (dK (.int 8)) (dNil)))) (gNm 2)) (dSeq (dIf (dTru (dBin ltO (dVar 2) (dK (.int 2)))) (dRet (dK (.int 0))) (dSkip)) (dSeq (dIf (dTru (dBin eqO (dVar 2) (dK (.int 2)))) (dRet (dVar 1)) (dSkip)) (dSeq (dIf (dTru (dBin eqO (dVar 2) (dK (.int 3)))) (dRet (dBin addF (dVar 1) (dK (.int 1)))) (dSkip)) (dSeq (dIf (dTru (dBin eqO (dVar 2) (dK (.int 4)))) (dRet (dBin addF (dBin addF (dVar 1) (dK (.int 1))) (dCall F_l_draw (dCons (dVar 0) (dCons (dK (.int 100)) (dNil)))))) (dSkip)) (dSeq (dIf (dTru (dBin eqO (dVar 2) (dK (.int 5)))) (dRet (dBin fdivO (dVar 1) (dK (.int 2)))) (dSkip)) (dRet (dCall F_l_draw (dCons (dVar 0) (dCons (dK (.int 4)) (dNil))))))))))
noncomputable def F_l_step : DF := runF 2 3 true b_l_step
def d_l_step : He.DefD := ⟨("_law_step", none), "_law_step", "_law_step", defArgs s_l_step, defBody s_l_step, defScope s_l_step, [], []⟩
abbrev s_l_deeds : Stmt := top 18
noncomputable def b_l_deeds_1 : DS := dSeq (dAsg (dCall F_l_draw (dCons (dVar 0) (dCons (dK (.int 12)) (dNil)))) (gNm 11)) (dSeq (dAsg (dBin ixO (dVar 2) (dCall F_l_draw (dCons (dVar 0) (dCons (dAp lenO (dCons (dVar 2) (dNil))) (dNil))))) (gNm 12)) (dIf (dTru (dBin ltO (dVar 11) (dK (.int 7)))) (dSeq (dAsg (dBin addF (dVar 8) (dCall F_l_step (dCons (dVar 0) (dCons (dVar 4) (dNil))))) (gNm 8)) (dEx (dBM isLst appendO (dVar 6) (dCons (dAp tupO (dCons (dK (.str "event")) (dCons (dVar 12) (dCons (dVar 8) (dCons (dCall F_l_value (dCons (dVar 0) (dCons (dVar 5) (dNil)))) (dNil)))))) (dNil))))) (dIf (dTru (dBin eqO (dVar 11) (dK (.int 7)))) (dEx (dBM isLst appendO (dVar 6) (dCons (dAp tupO (dCons (dK (.str "event")) (dCons (dVar 12) (dCons (dBin subO (dVar 8) (dCall F_l_draw (dCons (dVar 0) (dCons (dK (.int 5)) (dNil))))) (dCons (dCall F_l_value (dCons (dVar 0) (dCons (dVar 5) (dNil)))) (dNil)))))) (dNil)))) (dIf (dTru (dBin eqO (dVar 11) (dK (.int 8)))) (dEx (dBM isLst appendO (dVar 6) (dCons (dAp tupO (dCons (dK (.str "raise")) (dCons (dBin addF (dBin subO (dVar 8) (dK (.int 1))) (dCall F_l_draw (dCons (dVar 0) (dCons (dK (.int 3)) (dNil))))) (dNil)))) (dNil)))) (dIf (dTru (dBin eqO (dVar 11) (dK (.int 9)))) (dEx (dBM isLst appendO (dVar 6) (dCons (dAp tupO (dCons (dK (.str "raise")) (dCons (dBin addF (dBin addF (dVar 8) (dVar 4)) (dCall F_l_draw (dCons (dVar 0) (dCons (dK (.int 2)) (dNil))))) (dNil)))) (dNil)))) (dIf (dAnd (dTru (dBin eqO (dVar 11) (dK (.int 10)))) (dTru (dVar 7))) (dEx (dBM isLst appendO (dVar 6) (dCons (dAp tupO (dCons (dK (.str "yard")) (dCons (dBM isLst popO (dVar 7) (dCons (dK (.int 0)) (dNil))) (dNil)))) (dNil)))) (dEx (dBM isLst appendO (dVar 6) (dCons (dAp tupO (dCons (dK (.str "raise")) (dCons (dBin subO (dVar 8) (dCall F_l_draw (dCons (dVar 0) (dCons (dK (.int 5)) (dNil))))) (dNil)))) (dNil))))))))))
noncomputable def b_l_deeds_2 : DS := dEx (dBM isLst appendO (dVar 6) (dCons (dAp tupO (dCons (dK (.str "yard")) (dCons (dVar 10) (dNil)))) (dNil)))
noncomputable def b_l_deeds : DS := dSeq (dAsg (dAp lstO (dNil)) (gNm 6)) (dSeq (dAsg (dAp listO (dCons (dVar 3) (dNil))) (gNm 7)) (dSeq (dAsg (dCall F_l_value (dCons (dVar 0) (dCons (dVar 5) (dNil)))) (gNm 8)) (dSeq (dForR1 (dCons (dVar 1) (dNil)) (gNm 9) b_l_deeds_1) (dSeq (dForL (dVar 7) (gNm 10) b_l_deeds_2) (dRet (dVar 6))))))
noncomputable def F_l_deeds : DF := runF 6 13 true b_l_deeds
def d_l_deeds : He.DefD := ⟨("_law_deeds", none), "_law_deeds", "_law_deeds", defArgs s_l_deeds, defBody s_l_deeds, defScope s_l_deeds, [], []⟩
abbrev s_l_world : Stmt := top 25
noncomputable def b_l_world : DS := dSeq (dAsg (dAp tupO (dCons (dAp tupO (dCons (dK (.str "a")) (dNil))) (dCons (dAp tupO (dCons (dK (.str "a")) (dCons (dK (.str "b")) (dNil)))) (dCons (dAp tupO (dCons (dK (.str "ab")) (dCons (dK (.str "a")) (dNil)))) (dCons (dAp tupO (dCons (dK (.str "k")) (dCons (dK (.str "kk")) (dCons (dK (.str "kkkkkkkk")) (dNil))))) (dCons (dAp tupO (dCons (dK (.str "zz")) (dCons (dK (.str "a")) (dCons (dK (.str "zza")) (dNil))))) (dNil))))))) (gNm 1)) (dSeq (dAsg (dBin ixO (dVar 1) (dCall F_l_draw (dCons (dVar 0) (dCons (dK (.int 5)) (dNil))))) (gNm 2)) (dSeq (dAsg (dBin ixO (dAp tupO (dCons (dAp tupO (dNil)) (dCons (dAp tupO (dCons (dAp tupO (dCons (dK (.int 0)) (dCons (dK (.int 2)) (dNil)))) (dNil))) (dCons (dAp tupO (dCons (dAp tupO (dCons (dK (.int 5)) (dNil))) (dCons (dAp tupO (dCons (dK (.int 0)) (dCons (dK (.int 1)) (dCons (dK (.int 2)) (dCons (dK (.int 3)) (dCons (dK (.int 4)) (dCons (dK (.int 5)) (dNil)))))))) (dCons (dAp tupO (dCons (dK (.int 1)) (dNil))) (dNil))))) (dNil))))) (dCall F_l_draw (dCons (dVar 0) (dCons (dK (.int 3)) (dNil))))) (gNm 3)) (dSeq (dAsg (dCall F_l_span (dCons (dVar 0) (dNil))) (gNm 4)) (dSeq (dAsg (dCall F_l_draw (dCons (dVar 0) (dCons (dK (.int 6)) (dNil)))) (gNm 5)) (dRet (dAp tupO (dCons (dVar 2) (dCons (dCall F_l_deeds (dCons (dVar 0) (dCons (dCall F_l_draw (dCons (dVar 0) (dCons (dK (.int 15)) (dNil)))) (dCons (dVar 2) (dCons (dVar 3) (dCons (dVar 4) (dCons (dVar 5) (dNil)))))))) (dNil)))))))))
noncomputable def F_l_world : DF := runF 1 6 true b_l_world
def d_l_world : He.DefD := ⟨("_law_world", none), "_law_world", "_law_world", defArgs s_l_world, defBody s_l_world, defScope s_l_world, [], []⟩
abbrev s_Gate_init : Stmt := inCls (top 10) 0
noncomputable def b_Gate_init : DS := dSeq (dSetA "_floor" ["Gate"] (dK .non) (dVar 0)) (dSeq (dSetA "_finished" ["Gate"] (dK (.bl false)) (dVar 0)) (dSeq (dSetA "_letters" ["Gate"] (dNewD) (dVar 0)) (dSeq (dSetA "_counts" ["Gate"] (dNewD) (dVar 0)) (dSetA "_late" ["Gate"] (dAp lstO (dNil)) (dVar 0)))))
noncomputable def F_Gate_init : DF := runF 1 1 true b_Gate_init
def d_Gate_init : He.DefD := ⟨("Gate", some "__init__"), "__init__", "Gate.__init__", defArgs s_Gate_init, defBody s_Gate_init, defScope s_Gate_init, [], []⟩
abbrev s_is_name : Stmt := top 7
noncomputable def b_is_name_1 : DS := dIf (dTru (dBin ninSO (dVar 1) (dK (.str "abcdefghijklmnopqrstuvwxyz")))) (dRet (dK (.bl false))) (dSkip)
noncomputable def b_is_name : DS := dSeq (dIf (dNot (dTru (dUn (isiO "str") (dVar 0)))) (dRet (dK (.bl false))) (dSkip)) (dSeq (dForS (dVar 0) (gNm 1) b_is_name_1) (dRet (dAndV (dBin neO (dVar 0) (dK (.str ""))) (dBin leO (dAp lenO (dCons (dVar 0) (dNil))) (dK (.int 8))))))
noncomputable def F_is_name : DF := runF 1 2 true b_is_name
def d_is_name : He.DefD := ⟨("is_name", none), "is_name", "is_name", defArgs s_is_name, defBody s_is_name, defScope s_is_name, [], []⟩
abbrev s_Gate_lets_in : Stmt := inCls (top 10) 4
noncomputable def b_Gate_lets_in : DS := dSeq (dIf (dOr (dTru (dFld "_finished" ["Gate"] (dVar 0))) (dNot (dTru (dCall F_is_name (dCons (dVar 1) (dNil)))))) (dRet (dK (.bl false))) (dSkip)) (dSeq (dIf (dAnd (dTru (dBin notNO (dFld "_floor" ["Gate"] (dVar 0)) (dK .non))) (dTru (dBin ltO (dVar 2) (dFld "_floor" ["Gate"] (dVar 0))))) (dRet (dK (.bl false))) (dSkip)) (dSeq (dAsg (dGet2 (dFld "_letters" ["Gate"] (dVar 0)) (dVar 1) (dAp lstF (dNil))) (gNm 3)) (dRet (dOrV (dBin eqO (dVar 3) (dAp lstF (dNil))) (dBin geO (dVar 2) (dBin ixO (dBin ixO (dVar 3) (dUn negO (dK (.int 1)))) (dK (.int 1))))))))
noncomputable def F_Gate_lets_in : DF := runF 3 4 true b_Gate_lets_in
def d_Gate_lets_in : He.DefD := ⟨("Gate", some "lets_in"), "lets_in", "Gate.lets_in", defArgs s_Gate_lets_in, defBody s_Gate_lets_in, defScope s_Gate_lets_in, [], []⟩
noncomputable def mt_lets_in : List (Str × DF) := [("Gate", F_Gate_lets_in)]
abbrev s_l_lets : Stmt := top 20
noncomputable def b_l_lets : DS := dSeq (dAsg (dVar 0) (gTp [gNm 4, gNm 5, gNm 6, gNm 7, gNm 8])) (dSeq (dAsg (dGet2 (dVar 4) (dVar 1) (dAp lstF (dNil))) (gNm 3)) (dSeq (dIf (dOr (dTru (dVar 7)) (dAnd (dTru (dBin notNO (dVar 5) (dK .non))) (dTru (dBin ltO (dVar 2) (dVar 5))))) (dRet (dK (.bl false))) (dSkip)) (dRet (dOrV (dBin eqO (dAp lenO (dCons (dVar 3) (dNil))) (dK (.int 0))) (dBin geO (dVar 2) (dBin ixO (dBin ixO (dVar 3) (dUn negO (dK (.int 1)))) (dK (.int 1))))))))
noncomputable def F_l_lets : DF := runF 3 9 true b_l_lets
def d_l_lets : He.DefD := ⟨("_law_lets", none), "_law_lets", "_law_lets", defArgs s_l_lets, defBody s_l_lets, defScope s_l_lets, [], []⟩
abbrev s_Gate_check_going : Stmt := inCls (top 10) 3
noncomputable def b_Gate_check_going : DS := dIf (dTru (dFld "_finished" ["Gate"] (dVar 0))) (dRaiseT "Finished") (dSkip)
noncomputable def F_Gate_check_going : DF := runF 1 1 true b_Gate_check_going
def d_Gate_check_going : He.DefD := ⟨("Gate", some "check_going"), "check_going", "Gate.check_going", defArgs s_Gate_check_going, defBody s_Gate_check_going, defScope s_Gate_check_going, [], []⟩
noncomputable def mt_check_going : List (Str × DF) := [("Gate", F_Gate_check_going)]
abbrev s_check_name : Stmt := top 8
noncomputable def b_check_name : DS := dIf (dNot (dTru (dCall F_is_name (dCons (dVar 0) (dNil))))) (dRaise "BadName" "name" (dCons (dVar 0) (dNil))) (dSkip)
noncomputable def F_check_name : DF := runF 1 1 true b_check_name
def d_check_name : He.DefD := ⟨("check_name", none), "check_name", "check_name", defArgs s_check_name, defBody s_check_name, defScope s_check_name, [], []⟩
abbrev s_Gate_event : Stmt := inCls (top 10) 5
noncomputable def b_Gate_event : DS := dSeq (dEx (dMeth "check_going" mt_check_going (dVar 0) dNil)) (dSeq (dEx (dCall F_check_name (dCons (dVar 1) (dNil)))) (dSeq (dIf (dNot (dTru (dMeth "lets_in" mt_lets_in (dVar 0) (dCons (dVar 1) (dCons (dVar 2) (dNil)))))) (dSeq (dEx (dBM isLst appendO (dFld "_late" ["Gate"] (dVar 0)) (dCons (dAp tupO (dCons (dVar 1) (dCons (dVar 2) (dCons (dVar 3) (dNil))))) (dNil)))) (dRet (dK .non))) (dSkip)) (dSeq (dAsg (dGet2 (dFld "_letters" ["Gate"] (dVar 0)) (dVar 1) (dAp lstF (dNil))) (gNm 4)) (dSeq (dPut (dBin addF (dVar 4) (dAp lstF (dCons (dAp tupO (dCons (dAp lenO (dCons (dVar 4) (dNil))) (dCons (dVar 2) (dCons (dVar 3) (dNil))))) (dNil)))) (dFld "_letters" ["Gate"] (dVar 0)) (dVar 1)) (dRet (dAp lenO (dCons (dVar 4) (dNil))))))))
noncomputable def F_Gate_event : DF := runF 4 5 true b_Gate_event
def d_Gate_event : He.DefD := ⟨("Gate", some "event"), "event", "Gate.event", defArgs s_Gate_event, defBody s_Gate_event, defScope s_Gate_event, [], []⟩
noncomputable def mt_event : List (Str × DF) := [("Gate", F_Gate_event)]
abbrev s_Gate_raise_floor : Stmt := inCls (top 10) 6
noncomputable def b_Gate_raise_floor : DS := dSeq (dEx (dMeth "check_going" mt_check_going (dVar 0) dNil)) (dSeq (dIf (dAnd (dTru (dBin notNO (dFld "_floor" ["Gate"] (dVar 0)) (dK .non))) (dTru (dBin leO (dVar 1) (dFld "_floor" ["Gate"] (dVar 0))))) (dRet (dK (.bl false))) (dSkip)) (dSeq (dSetA "_floor" ["Gate"] (dVar 1) (dVar 0)) (dSeq (dSetA "_counts" ["Gate"] (dDcK (fpA "_letters" ["Gate"] 0) 2 (dVar 2) (dAp lenO (dCons (dBin dIxKO (dFld "_letters" ["Gate"] (dVar 0)) (dVar 2)) (dNil)))) (dVar 0)) (dRet (dK (.bl true))))))
noncomputable def F_Gate_raise_floor : DF := runF 2 3 true b_Gate_raise_floor
def d_Gate_raise_floor : He.DefD := ⟨("Gate", some "raise_floor"), "raise_floor", "Gate.raise_floor", defArgs s_Gate_raise_floor, defBody s_Gate_raise_floor, defScope s_Gate_raise_floor, [], []⟩
noncomputable def mt_raise_floor : List (Str × DF) := [("Gate", F_Gate_raise_floor)]
abbrev s_Gate_finish : Stmt := inCls (top 10) 7
noncomputable def b_Gate_finish : DS := dSeq (dEx (dMeth "check_going" mt_check_going (dVar 0) dNil)) (dSetA "_finished" ["Gate"] (dK (.bl true)) (dVar 0))
noncomputable def F_Gate_finish : DF := runF 1 1 true b_Gate_finish
def d_Gate_finish : He.DefD := ⟨("Gate", some "finish"), "finish", "Gate.finish", defArgs s_Gate_finish, defBody s_Gate_finish, defScope s_Gate_finish, [], []⟩
noncomputable def mt_finish : List (Str × DF) := [("Gate", F_Gate_finish)]
abbrev s_Gate_take : Stmt := inCls (top 10) 8
noncomputable def b_Gate_take : DS := dSeq (dEx (dMeth "check_going" mt_check_going (dVar 0) dNil)) (dSeq (dIf (dTru (dBin eqO (dBin ixO (dVar 1) (dK (.int 0))) (dK (.str "event")))) (dRet (dMeth "event" mt_event (dVar 0) (dCons (dBin ixO (dVar 1) (dK (.int 1))) (dCons (dBin ixO (dVar 1) (dK (.int 2))) (dCons (dBin ixO (dVar 1) (dK (.int 3))) (dNil)))))) (dSkip)) (dSeq (dIf (dTru (dBin eqO (dBin ixO (dVar 1) (dK (.int 0))) (dK (.str "raise")))) (dRet (dMeth "raise_floor" mt_raise_floor (dVar 0) (dCons (dBin ixO (dVar 1) (dK (.int 1))) (dNil)))) (dSkip)) (dSeq (dIf (dTru (dBin eqO (dBin ixO (dVar 1) (dK (.int 0))) (dK (.str "finish")))) (dEx (dMeth "finish" mt_finish (dVar 0) dNil)) (dSkip)) (dRet (dK .non)))))
noncomputable def F_Gate_take : DF := runF 2 2 true b_Gate_take
def d_Gate_take : He.DefD := ⟨("Gate", some "take"), "take", "Gate.take", defArgs s_Gate_take, defBody s_Gate_take, defScope s_Gate_take, [], []⟩
noncomputable def mt_take : List (Str × DF) := [("Gate", F_Gate_take)]
abbrev s_l_taken : Stmt := top 21
noncomputable def b_l_taken : DS := dSeq (dAsg (dVar 1) (gTp [gNm 6, gNm 7, gNm 8, gNm 9, gNm 10])) (dSeq (dAsg (dK (.bl false)) (gNm 4)) (dSeq (dIf (dTru (dBin eqO (dBin ixO (dVar 2) (dK (.int 0))) (dK (.str "event")))) (dSeq (dAsg (dMeth "lets_in" mt_lets_in (dVar 0) (dCons (dBin ixO (dVar 2) (dK (.int 1))) (dCons (dBin ixO (dVar 2) (dK (.int 2))) (dNil)))) (gNm 4)) (dIf (dOr (dNot (dTru (dUn (isiO "bool") (dVar 4)))) (dTru (dBin neO (dVar 4) (dCall F_l_lets (dCons (dVar 1) (dCons (dBin ixO (dVar 2) (dK (.int 1))) (dCons (dBin ixO (dVar 2) (dK (.int 2))) (dNil)))))))) (dRet (dK (.bl false))) (dSkip))) (dSkip)) (dSeq (dIf (dAnd (dTru (dVar 3)) (dTru (dBin eqO (dBin ixO (dVar 2) (dK (.int 0))) (dK (.str "event"))))) (dAsg (dMeth "event" mt_event (dVar 0) (dCons (dBin ixO (dVar 2) (dK (.int 1))) (dCons (dBin ixO (dVar 2) (dK (.int 2))) (dCons (dBin ixO (dVar 2) (dK (.int 3))) (dNil))))) (gNm 11)) (dIf (dAnd (dTru (dVar 3)) (dTru (dBin eqO (dBin ixO (dVar 2) (dK (.int 0))) (dK (.str "raise"))))) (dAsg (dMeth "raise_floor" mt_raise_floor (dVar 0) (dCons (dBin ixO (dVar 2) (dK (.int 1))) (dNil))) (gNm 11)) (dAsg (dMeth "take" mt_take (dVar 0) (dCons (dVar 2) (dNil))) (gNm 11)))) (dSeq (dIf (dTru (dBin eqO (dBin ixO (dVar 2) (dK (.int 0))) (dK (.str "raise")))) (dRet (dAndV (dUn (isiO "bool") (dVar 11)) (dBin eqO (dVar 11) (dOrV (dBin isNO (dVar 7) (dK .non)) (dBin gtO (dBin ixO (dVar 2) (dK (.int 1))) (dVar 7)))))) (dSkip)) (dSeq (dIf (dNot (dTru (dVar 4))) (dRet (dBin isNO (dVar 11) (dK .non))) (dSkip)) (dSeq (dAsg (dAp lenO (dCons (dGet2 (dVar 6) (dBin ixO (dVar 2) (dK (.int 1))) (dAp lstF (dNil))) (dNil))) (gNm 5)) (dRet (dAndV (dUn (isiO "int") (dVar 11)) (dAndV (dNotV (dUn (isiO "bool") (dVar 11))) (dBin eqO (dVar 11) (dVar 5)))))))))))
noncomputable def F_l_taken : DF := runF 4 12 true b_l_taken
def d_l_taken : He.DefD := ⟨("_law_taken", none), "_law_taken", "_law_taken", defArgs s_l_taken, defBody s_l_taken, defScope s_l_taken, [], []⟩
abbrev s_l_gate : Stmt := top 19
noncomputable def b_l_gate_2 : DS := dPut (dAp lenO (dCons (dBin dIxKO (dVar 1) (dVar 7)) (dNil))) (dVar 3) (dVar 7)
noncomputable def b_l_gate_1 : DS := dSeq (dIf (dAnd (dTru (dBin eqO (dBin ixO (dVar 6) (dK (.int 0))) (dK (.str "raise")))) (dOr (dTru (dBin isNO (dVar 2) (dK .non))) (dTru (dBin gtO (dBin ixO (dVar 6) (dK (.int 1))) (dVar 2))))) (dSeq (dAsg (dBin ixO (dVar 6) (dK (.int 1))) (gNm 2)) (dSeq (dAsg (dNewD) (gNm 3)) (dForK (fpV 1) (gNm 7) b_l_gate_2))) (dSkip)) (dSeq (dIf (dTru (dBin eqO (dBin ixO (dVar 6) (dK (.int 0))) (dK (.str "finish")))) (dAsg (dK (.bl true)) (gNm 4)) (dSkip)) (dIf (dTru (dBin eqO (dBin ixO (dVar 6) (dK (.int 0))) (dK (.str "event")))) (dSeq (dAsg (dGet2 (dVar 1) (dBin ixO (dVar 6) (dK (.int 1))) (dAp lstF (dNil))) (gNm 8)) (dIf (dOr (dAnd (dTru (dBin notNO (dVar 2) (dK .non))) (dTru (dBin ltO (dBin ixO (dVar 6) (dK (.int 2))) (dVar 2)))) (dAnd (dTru (dVar 8)) (dTru (dBin ltO (dBin ixO (dVar 6) (dK (.int 2))) (dBin ixO (dBin ixO (dVar 8) (dUn negO (dK (.int 1)))) (dK (.int 1))))))) (dEx (dBM isLst appendO (dVar 5) (dCons (dAp tupO (dCons (dBin ixO (dVar 6) (dK (.int 1))) (dCons (dBin ixO (dVar 6) (dK (.int 2))) (dCons (dBin ixO (dVar 6) (dK (.int 3))) (dNil))))) (dNil)))) (dPut (dBin addF (dVar 8) (dAp lstF (dCons (dAp tupO (dCons (dAp lenO (dCons (dVar 8) (dNil))) (dCons (dBin ixO (dVar 6) (dK (.int 2))) (dCons (dBin ixO (dVar 6) (dK (.int 3))) (dNil))))) (dNil)))) (dVar 1) (dBin ixO (dVar 6) (dK (.int 1)))))) (dSkip)))
noncomputable def b_l_gate : DS := dSeq (dAsg (dNewD) (gNm 1)) (dSeq (dAsg (dK .non) (gNm 2)) (dSeq (dAsg (dNewD) (gNm 3)) (dSeq (dAsg (dK (.bl false)) (gNm 4)) (dSeq (dAsg (dAp lstO (dNil)) (gNm 5)) (dSeq (dForL (dVar 0) (gNm 6) b_l_gate_1) (dRet (dAp tupO (dCons (dVar 1) (dCons (dVar 2) (dCons (dVar 3) (dCons (dVar 4) (dCons (dVar 5) (dNil)))))))))))))
noncomputable def F_l_gate : DF := runF 1 9 true b_l_gate
def d_l_gate : He.DefD := ⟨("_law_gate", none), "_law_gate", "_law_gate", defArgs s_l_gate, defBody s_l_gate, defScope s_l_gate, [], []⟩
abbrev s_Gate_floor : Stmt := inCls (top 10) 1
noncomputable def b_Gate_floor : DS := dRet (dFld "_floor" ["Gate"] (dVar 0))
noncomputable def F_Gate_floor : DF := runF 1 1 true b_Gate_floor
def d_Gate_floor : DefG := ⟨getA "Gate" "floor", "floor", "Gate.floor", defArgs s_Gate_floor, defBody s_Gate_floor, defScope s_Gate_floor, []⟩
noncomputable def pt_floor : List (Str × DF) := [("Gate", F_Gate_floor)]
abbrev s_Gate_finished : Stmt := inCls (top 10) 2
noncomputable def b_Gate_finished : DS := dRet (dFld "_finished" ["Gate"] (dVar 0))
noncomputable def F_Gate_finished : DF := runF 1 1 true b_Gate_finished
def d_Gate_finished : DefG := ⟨getA "Gate" "finished", "finished", "Gate.finished", defArgs s_Gate_finished, defBody s_Gate_finished, defScope s_Gate_finished, []⟩
noncomputable def pt_finished : List (Str × DF) := [("Gate", F_Gate_finished)]
abbrev s_Gate_known : Stmt := inCls (top 10) 11
noncomputable def b_Gate_known : DS := dRet (dAp sortSC (dCons (dAp listKP (dCons (dFld "_letters" ["Gate"] (dVar 0)) (dNil))) (dNil)))
def d_Gate_known : He.DefD := ⟨("Gate", some "known"), "known", "Gate.known", defArgs s_Gate_known, defBody s_Gate_known, defScope s_Gate_known, [], []⟩
noncomputable def F_Gate_known_n : DF := runF 1 1 false b_Gate_known
noncomputable def mt_known_n : List (Str × DF) := [("Gate", F_Gate_known_n)]
abbrev s_Gate_late : Stmt := inCls (top 10) 13
noncomputable def b_Gate_late : DS := dRet (dAp listO (dCons (dFld "_late" ["Gate"] (dVar 0)) (dNil)))
def d_Gate_late : He.DefD := ⟨("Gate", some "late"), "late", "Gate.late", defArgs s_Gate_late, defBody s_Gate_late, defScope s_Gate_late, [], []⟩
noncomputable def F_Gate_late_n : DF := runF 1 1 false b_Gate_late
noncomputable def mt_late_n : List (Str × DF) := [("Gate", F_Gate_late_n)]
abbrev s_Gate_letters_of : Stmt := inCls (top 10) 9
noncomputable def b_Gate_letters_of : DS := dRet (dAp listO (dCons (dGet2 (dFld "_letters" ["Gate"] (dVar 0)) (dVar 1) (dAp lstF (dNil))) (dNil)))
def d_Gate_letters_of : He.DefD := ⟨("Gate", some "letters_of"), "letters_of", "Gate.letters_of", defArgs s_Gate_letters_of, defBody s_Gate_letters_of, defScope s_Gate_letters_of, [], []⟩
noncomputable def F_Gate_letters_of_n : DF := runF 2 2 false b_Gate_letters_of
noncomputable def mt_letters_of_n : List (Str × DF) := [("Gate", F_Gate_letters_of_n)]
abbrev s_Gate_count_of : Stmt := inCls (top 10) 10
noncomputable def b_Gate_count_of : DS := dRet (dAp lenO (dCons (dGet2 (dFld "_letters" ["Gate"] (dVar 0)) (dVar 1) (dAp lstF (dNil))) (dNil)))
noncomputable def F_Gate_count_of : DF := runF 2 2 true b_Gate_count_of
def d_Gate_count_of : He.DefD := ⟨("Gate", some "count_of"), "count_of", "Gate.count_of", defArgs s_Gate_count_of, defBody s_Gate_count_of, defScope s_Gate_count_of, [], []⟩
noncomputable def mt_count_of : List (Str × DF) := [("Gate", F_Gate_count_of)]
abbrev s_l_asked : Stmt := top 22
noncomputable def b_l_asked_2 : DS := dSeq (dAsg (dMeth "letters_of" mt_letters_of_n (dVar 0) (dCons (dVar 11) (dNil))) (gNm 12)) (dSeq (dIf (dOr (dTru (dBin neO (dVar 12) (dGet2 (dVar 4) (dVar 11) (dAp lstF (dNil))))) (dTru (dBin neO (dMeth "count_of" mt_count_of (dVar 0) (dCons (dVar 11) (dNil))) (dAp lenO (dCons (dVar 12) (dNil)))))) (dRet (dK (.bl false))) (dSkip)) (dEx (dBM isLst appendO (dVar 12) (dCons (dAp tupO (dCons (dAp lenO (dCons (dVar 12) (dNil))) (dCons (dK (.int 0)) (dCons (dK (.int 0)) (dNil))))) (dNil)))))
noncomputable def b_l_asked_1 : DS := dSeq (dAsg (dMeth "known" mt_known_n (dVar 0) dNil) (gNm 9)) (dSeq (dAsg (dMeth "late" mt_late_n (dVar 0) dNil) (gNm 10)) (dSeq (dIf (dOr (dTru (dBin neO (dVar 9) (dAp sortSF (dCons (dAp listKP (dCons (dVar 4) (dNil))) (dNil))))) (dTru (dBin neO (dVar 10) (dVar 8)))) (dRet (dK (.bl false))) (dSkip)) (dSeq (dEx (dBM isLst appendO (dVar 9) (dCons (dK (.str "zz")) (dNil)))) (dSeq (dEx (dBM isLst appendO (dVar 10) (dCons (dAp tupO (dCons (dK (.str "zz")) (dCons (dK (.int 0)) (dCons (dK (.int 0)) (dNil))))) (dNil)))) (dForL (dBin addF (dAp listF (dCons (dVar 2) (dNil))) (dAp lstF (dCons (dK (.str "zzz")) (dNil)))) (gNm 11) b_l_asked_2)))))
noncomputable def b_l_asked : DS := dSeq (dAsg (dVar 1) (gTp [gNm 4, gNm 5, gNm 6, gNm 7, gNm 8])) (dSeq (dIf (dOr (dTru (dBin neO (dProp pt_floor (dVar 0)) (dVar 5))) (dOr (dNot (dTru (dUn (isiO "bool") (dProp pt_finished (dVar 0))))) (dTru (dBin neO (dProp pt_finished (dVar 0)) (dVar 7))))) (dRet (dK (.bl false))) (dSkip)) (dSeq (dForR1 (dCons (dK (.int 2)) (dNil)) (gNm 3) b_l_asked_1) (dRet (dK (.bl true)))))
noncomputable def F_l_asked : DF := runF 3 13 true b_l_asked
def d_l_asked : He.DefD := ⟨("_law_asked", none), "_law_asked", "_law_asked", defArgs s_l_asked, defBody s_l_asked, defScope s_l_asked, [], []⟩
abbrev s_l_walked : Stmt := top 26
noncomputable def b_l_walked_1 : DS := dSeq (dIf (dNot (dTru (dCall F_l_taken (dCons (dVar 0) (dCons (dCall F_l_gate (dCons (dSlF (dVar 1) (dNoPart) (dPart (dVar 4))) (dNil))) (dCons (dBin ixO (dVar 1) (dVar 4)) (dCons (dBin eqO (dBin modO (dAp int1O (dCons (dBin addF (dVar 4) (dVar 3)) (dNil))) (dK (.int 2))) (dK (.int 1))) (dNil)))))))) (dRet (dK (.bl false))) (dSkip)) (dIf (dNot (dTru (dCall F_l_asked (dCons (dVar 0) (dCons (dCall F_l_gate (dCons (dSlF (dVar 1) (dNoPart) (dPart (dBin addF (dVar 4) (dK (.int 1))))) (dNil))) (dCons (dVar 2) (dNil))))))) (dRet (dK (.bl false))) (dSkip))
noncomputable def b_l_walked : DS := dSeq (dForR1 (dCons (dAp lenO (dCons (dVar 1) (dNil))) (dNil)) (gNm 4) b_l_walked_1) (dRet (dK (.bl true)))
noncomputable def F_l_walked : DF := runF 4 5 true b_l_walked
def d_l_walked : He.DefD := ⟨("_law_walked", none), "_law_walked", "_law_walked", defArgs s_l_walked, defBody s_l_walked, defScope s_l_walked, [], []⟩
abbrev s_l_refused : Stmt := top 23
noncomputable def x_l_refused_1 (c : Str) (fs : Option (List (Str × P))) : DS := dAsg (dAp tupO (dCons (dK (.str "finished")) (dCons (dXi [("Finished", true)] c) (dCons (dXi [("Finished", true)] c) (dNil))))) (gNm 3)
noncomputable def x_l_refused_2 (c : Str) (fs : Option (List (Str × P))) : DS := dAsg (dAp tupO (dCons (dK (.str "name")) (dCons (dXf ["BadName"] "name" c fs) (dCons (dXi [("BadName", true)] c) (dNil))))) (gNm 3)
noncomputable def b_l_refused_3 : DS := dIf (dTru (dBin eqO (dVar 1) (dK (.int 0)))) (dEx (dMeth "event" mt_event (dVar 0) (dCons (dVar 2) (dCons (dK (.int 5)) (dCons (dK (.int 1)) (dNil)))))) (dIf (dTru (dBin eqO (dVar 1) (dK (.int 1)))) (dEx (dMeth "take" mt_take (dVar 0) (dCons (dAp tupO (dCons (dK (.str "event")) (dCons (dVar 2) (dCons (dK (.int 5)) (dCons (dK (.int 1)) (dNil)))))) (dNil)))) (dIf (dTru (dBin eqO (dVar 1) (dK (.int 2)))) (dEx (dMeth "raise_floor" mt_raise_floor (dVar 0) (dCons (dK (.int 100000000000000000000000)) (dNil)))) (dIf (dTru (dBin eqO (dVar 1) (dK (.int 3)))) (dEx (dMeth "take" mt_take (dVar 0) (dCons (dAp tupO (dCons (dK (.str "raise")) (dCons (dK (.int 100000000000000000000000)) (dNil)))) (dNil)))) (dIf (dTru (dBin eqO (dVar 1) (dK (.int 4)))) (dEx (dMeth "take" mt_take (dVar 0) (dCons (dAp tupO (dCons (dK (.str "yard")) (dCons (dAp tupO (dCons (dK (.int 0)) (dCons (dK (.int 2)) (dNil)))) (dNil)))) (dNil)))) (dIf (dTru (dBin eqO (dVar 1) (dK (.int 5)))) (dEx (dMeth "finish" mt_finish (dVar 0) dNil)) (dEx (dMeth "take" mt_take (dVar 0) (dCons (dAp tupO (dCons (dK (.str "finish")) (dNil))) (dNil)))))))))
noncomputable def b_l_refused : DS := dSeq (dAsg (dK .non) (gNm 3)) (dSeq (dTryM b_l_refused_3 [([("BadName", false), ("Finished", true)], some 4, x_l_refused_1), ([("BadName", true), ("Finished", false)], some 5, x_l_refused_2)]) (dRet (dVar 3)))
noncomputable def F_l_refused : DF := runF 3 6 true b_l_refused
def d_l_refused : He.DefD := ⟨("_law_refused", none), "_law_refused", "_law_refused", defArgs s_l_refused, defBody s_l_refused, defScope s_l_refused, [], []⟩
abbrev s_l_no_name : Stmt := top 28
noncomputable def b_l_no_name_1 : DS := dIf (dTru (dBin neO (dCall F_l_refused (dCons (dVar 0) (dCons (dVar 4) (dCons (dVar 3) (dNil))))) (dAp tupO (dCons (dK (.str "name")) (dCons (dVar 3) (dCons (dK (.bl true)) (dNil))))))) (dRet (dK (.bl false))) (dSkip)
noncomputable def b_l_no_name : DS := dSeq (dIf (dTru (dBin notBO (dMeth "lets_in" mt_lets_in (dVar 0) (dCons (dVar 3) (dCons (dK (.int 100000000000000000000000)) (dNil)))) (dK (.bl false)))) (dRet (dK (.bl false))) (dSkip)) (dSeq (dForR1 (dCons (dK (.int 2)) (dNil)) (gNm 4) b_l_no_name_1) (dRet (dCall F_l_asked (dCons (dVar 0) (dCons (dCall F_l_gate (dCons (dVar 1) (dNil))) (dCons (dVar 2) (dNil)))))))
noncomputable def F_l_no_name : DF := runF 4 5 true b_l_no_name
def d_l_no_name : He.DefD := ⟨("_law_no_name", none), "_law_no_name", "_law_no_name", defArgs s_l_no_name, defBody s_l_no_name, defScope s_l_no_name, [], []⟩
abbrev s_Gate_twin : Stmt := inCls (top 10) 14
noncomputable def b_Gate_twin : DS := dSeq (dAsg (dNewC "Gate" F_Gate_init dNil) (gNm 1)) (dSeq (dSetA "_floor" ["Gate"] (dFld "_floor" ["Gate"] (dVar 0)) (dVar 1)) (dSeq (dSetA "_finished" ["Gate"] (dFld "_finished" ["Gate"] (dVar 0)) (dVar 1)) (dSeq (dSetA "_letters" ["Gate"] (dDcK (fpA "_letters" ["Gate"] 0) 2 (dVar 2) (dAp listF (dCons (dBin dIxKO (dFld "_letters" ["Gate"] (dVar 0)) (dVar 2)) (dNil)))) (dVar 1)) (dSeq (dSetA "_counts" ["Gate"] (dDcK (fpA "_counts" ["Gate"] 0) 2 (dVar 2) (dBin dIxKO (dFld "_counts" ["Gate"] (dVar 0)) (dVar 2))) (dVar 1)) (dSeq (dSetA "_late" ["Gate"] (dAp listO (dCons (dFld "_late" ["Gate"] (dVar 0)) (dNil))) (dVar 1)) (dRet (dVar 1)))))))
def d_Gate_twin : He.DefD := ⟨("Gate", some "twin"), "twin", "Gate.twin", defArgs s_Gate_twin, defBody s_Gate_twin, defScope s_Gate_twin, [], []⟩
noncomputable def F_Gate_twin_n : DF := runF 1 3 false b_Gate_twin
noncomputable def mt_twin_n : List (Str × DF) := [("Gate", F_Gate_twin_n)]
abbrev s_l_twinned : Stmt := top 27
noncomputable def b_l_twinned_1 : DS := dEx (dMeth "take" mt_take (dVar 3) (dCons (dVar 4) (dNil)))
noncomputable def b_l_twinned_2 : DS := dEx (dMeth "take" mt_take (dVar 3) (dCons (dVar 4) (dNil)))
noncomputable def b_l_twinned : DS := dSeq (dAsg (dNewC "Gate" F_Gate_init dNil) (gNm 3)) (dSeq (dForL (dSlF (dVar 0) (dNoPart) (dPart (dVar 2))) (gNm 4) b_l_twinned_1) (dSeq (dAsg (dMeth "twin" mt_twin_n (dVar 3) dNil) (gNm 5)) (dSeq (dForL (dSlF (dVar 0) (dPart (dVar 2)) (dNoPart)) (gNm 4) b_l_twinned_2) (dSeq (dIf (dNot (dTru (dCall F_l_asked (dCons (dVar 5) (dCons (dCall F_l_gate (dCons (dSlF (dVar 0) (dNoPart) (dPart (dVar 2))) (dNil))) (dCons (dVar 1) (dNil))))))) (dRet (dK (.bl false))) (dSkip)) (dSeq (dAsg (dAp tupO (dCons (dK (.str "event")) (dCons (dBin ixO (dVar 1) (dK (.int 0))) (dCons (dK (.int 100000000000000000000000)) (dCons (dK (.int 1)) (dNil)))))) (gNm 6)) (dSeq (dEx (dMeth "take" mt_take (dVar 5) (dCons (dVar 6) (dNil)))) (dSeq (dEx (dMeth "take" mt_take (dVar 5) (dCons (dAp tupO (dCons (dK (.str "raise")) (dCons (dK (.int 100000000000000000000000)) (dNil)))) (dNil)))) (dSeq (dIf (dNot (dTru (dCall F_l_asked (dCons (dVar 5) (dCons (dCall F_l_gate (dCons (dBin addF (dSlF (dVar 0) (dNoPart) (dPart (dVar 2))) (dAp lstF (dCons (dVar 6) (dCons (dAp tupO (dCons (dK (.str "raise")) (dCons (dK (.int 100000000000000000000000)) (dNil)))) (dNil))))) (dNil))) (dCons (dVar 1) (dNil))))))) (dRet (dK (.bl false))) (dSkip)) (dRet (dCall F_l_asked (dCons (dVar 3) (dCons (dCall F_l_gate (dCons (dVar 0) (dNil))) (dCons (dVar 1) (dNil))))))))))))))
noncomputable def F_l_twinned : DF := runF 3 7 true b_l_twinned
def d_l_twinned : He.DefD := ⟨("_law_twinned", none), "_law_twinned", "_law_twinned", defArgs s_l_twinned, defBody s_l_twinned, defScope s_l_twinned, [], []⟩
abbrev s_Gate_mark_of : Stmt := inCls (top 10) 12
noncomputable def b_Gate_mark_of : DS := dSeq (dIf (dTru (dFld "_finished" ["Gate"] (dVar 0))) (dRet (dAp tupO (dCons (dMeth "count_of" mt_count_of (dVar 0) (dCons (dVar 1) (dNil))) (dCons (dK .non) (dNil))))) (dSkip)) (dSeq (dIf (dTru (dBin isNO (dFld "_floor" ["Gate"] (dVar 0)) (dK .non))) (dRet (dK .non)) (dSkip)) (dRet (dAp tupO (dCons (dGet2 (dFld "_counts" ["Gate"] (dVar 0)) (dVar 1) (dK (.int 0))) (dCons (dFld "_floor" ["Gate"] (dVar 0)) (dNil))))))
noncomputable def F_Gate_mark_of : DF := runF 2 2 true b_Gate_mark_of
def d_Gate_mark_of : He.DefD := ⟨("Gate", some "mark_of"), "mark_of", "Gate.mark_of", defArgs s_Gate_mark_of, defBody s_Gate_mark_of, defScope s_Gate_mark_of, [], []⟩
noncomputable def mt_mark_of : List (Str × DF) := [("Gate", F_Gate_mark_of)]
abbrev s_l_ended : Stmt := top 24
noncomputable def b_l_ended_1 : DS := dSeq (dIf (dTru (dBin neO (dCall F_l_refused (dCons (dVar 0) (dCons (dVar 5) (dCons (dVar 3) (dNil))))) (dAp tupO (dCons (dK (.str "finished")) (dCons (dK (.bl true)) (dCons (dK (.bl true)) (dNil))))))) (dRet (dK (.bl false))) (dSkip)) (dIf (dTru (dBin neO (dCall F_l_refused (dCons (dVar 0) (dCons (dVar 5) (dCons (dBin ixO (dVar 2) (dK (.int 0))) (dNil))))) (dAp tupO (dCons (dK (.str "finished")) (dCons (dK (.bl true)) (dCons (dK (.bl true)) (dNil))))))) (dRet (dK (.bl false))) (dSkip))
noncomputable def b_l_ended : DS := dSeq (dAsg (dCall F_l_gate (dCons (dBin addF (dVar 1) (dAp lstF (dCons (dAp tupO (dCons (dK (.str "finish")) (dNil))) (dNil)))) (dNil))) (gNm 4)) (dSeq (dForR1 (dCons (dK (.int 7)) (dNil)) (gNm 5) b_l_ended_1) (dSeq (dIf (dTru (dBin notBO (dMeth "lets_in" mt_lets_in (dVar 0) (dCons (dBin ixO (dVar 2) (dK (.int 0))) (dCons (dK (.int 100000000000000000000000)) (dNil)))) (dK (.bl false)))) (dRet (dK (.bl false))) (dSkip)) (dSeq (dIf (dTru (dBin neO (dMeth "mark_of" mt_mark_of (dVar 0) (dCons (dBin ixO (dVar 2) (dK (.int 0))) (dNil))) (dAp tupO (dCons (dAp lenO (dCons (dGet2 (dBin ixO (dVar 4) (dK (.int 0))) (dBin ixO (dVar 2) (dK (.int 0))) (dAp lstF (dNil))) (dNil))) (dCons (dK .non) (dNil)))))) (dRet (dK (.bl false))) (dSkip)) (dRet (dCall F_l_asked (dCons (dVar 0) (dCons (dVar 4) (dCons (dVar 2) (dNil)))))))))
noncomputable def F_l_ended : DF := runF 4 6 true b_l_ended
def d_l_ended : He.DefD := ⟨("_law_ended", none), "_law_ended", "_law_ended", defArgs s_l_ended, defBody s_l_ended, defScope s_l_ended, [], []⟩
abbrev s_law : Stmt := top 29
noncomputable def b_law : DS := dSeq (dAsg (dCall F_l_stream (dCons (dVar 0) (dNil))) (gNm 1)) (dSeq (dAsg (dCall F_l_world (dCons (dVar 1) (dNil))) (gTp [gNm 7, gNm 8])) (dSeq (dAsg (dBin modO (dAp int1O (dCons (dCall F_l_draw (dCons (dVar 1) (dCons (dK (.int 18)) (dNil)))) (dNil))) (dBin addF (dAp lenO (dCons (dVar 8) (dNil))) (dK (.int 1)))) (gNm 2)) (dSeq (dAsg (dCall F_l_draw (dCons (dVar 1) (dCons (dK (.int 2)) (dNil)))) (gNm 3)) (dSeq (dAsg (dBin ixO (dAp tupO (dCons (dK (.str "")) (dCons (dK (.str "A")) (dCons (dK (.str "a1")) (dCons (dK (.str "abcdefghi")) (dCons (dK (.str "a b")) (dCons (dK (.str " a")) (dCons (dK (.str "a ")) (dCons (dK (.str "a-b")) (dCons (dK (.str "0")) (dCons (dK .non) (dCons (dK (.int 5)) (dNil))))))))))))) (dCall F_l_draw (dCons (dVar 1) (dCons (dK (.int 11)) (dNil))))) (gNm 4)) (dSeq (dAsg (dCall F_l_draw (dCons (dVar 1) (dCons (dK (.int 3)) (dNil)))) (gNm 5)) (dSeq (dAsg (dNewC "Gate" F_Gate_init dNil) (gNm 6)) (dSeq (dIf (dOr (dNot (dTru (dCall F_l_walked (dCons (dVar 6) (dCons (dVar 8) (dCons (dVar 7) (dCons (dVar 3) (dNil)))))))) (dNot (dTru (dCall F_l_no_name (dCons (dVar 6) (dCons (dVar 8) (dCons (dVar 7) (dCons (dVar 4) (dNil))))))))) (dRet (dK (.bl false))) (dSkip)) (dSeq (dIf (dNot (dTru (dCall F_l_twinned (dCons (dVar 8) (dCons (dVar 7) (dCons (dVar 2) (dNil))))))) (dRet (dK (.bl false))) (dSkip)) (dSeq (dIf (dAnd (dTru (dBin eqO (dVar 5) (dK (.int 1)))) (dTru (dBin notNO (dMeth "finish" mt_finish (dVar 6) dNil) (dK .non)))) (dRet (dK (.bl false))) (dSkip)) (dSeq (dIf (dAnd (dTru (dBin eqO (dVar 5) (dK (.int 2)))) (dTru (dBin notNO (dMeth "take" mt_take (dVar 6) (dCons (dAp tupO (dCons (dK (.str "finish")) (dNil))) (dNil))) (dK .non)))) (dRet (dK (.bl false))) (dSkip)) (dRet (dOrV (dBin eqO (dVar 5) (dK (.int 0))) (dCall F_l_ended (dCons (dVar 6) (dCons (dVar 8) (dCons (dVar 7) (dCons (dVar 4) (dNil))))))))))))))))))
noncomputable def F_law : DF := runF 1 9 true b_law
def d_law : He.DefD := ⟨("law", none), "law", "law", defArgs s_law, defBody s_law, defScope s_law, [], []⟩
def defs : List He.DefD := ((d_l_stream) :: (d_l_draw) :: (d_l_span) :: (d_l_wide) :: (d_l_value) :: (d_l_step) :: (d_l_deeds) :: (d_l_world) :: (d_Gate_init) :: (d_is_name) :: (d_Gate_lets_in) :: (d_l_lets) :: (d_Gate_check_going) :: (d_check_name) :: (d_Gate_event) :: (d_Gate_raise_floor) :: (d_Gate_finish) :: (d_Gate_take) :: (d_l_taken) :: (d_l_gate) :: (d_Gate_known) :: (d_Gate_late) :: (d_Gate_letters_of) :: (d_Gate_count_of) :: (d_l_asked) :: (d_l_walked) :: (d_l_refused) :: (d_l_no_name) :: (d_Gate_twin) :: (d_l_twinned) :: (d_Gate_mark_of) :: (d_l_ended) :: (d_law) :: [])
def cdefs : List DefC := [d_BadName_init]
def gdefs : List DefG := [d_Gate_floor, d_Gate_finished]
def frees : List Str := ["super", "abs", "int", "range", "enumerate", "len", "list", "isinstance", "str", "bool", "sorted", "ValueError"]
def glos : List Str := ["_law_stream", "_law_draw", "_law_span", "_law_wide", "_law_value", "_law_step", "_law_deeds", "_law_world", "Gate", "is_name", "_law_lets", "Finished", "BadName", "check_name", "_law_gate", "_law_taken", "_law_asked", "_law_walked", "MovedError", "_law_refused", "_law_no_name", "_law_twinned", "_law_ended", "law"]
def fas0 : List He.Fa := [.cls "Gate", .noat "Gate" "_floor", .noat "Gate" "_finished", .noat "Gate" "_letters", .noat "Gate" "_counts", .noat "Gate" "_late", .mkr "Gate", .str "LETTERS" "abcdefghijklmnopqrstuvwxyz", .int "LONGEST_NAME" 8, .meth "Gate" "lets_in", .exc "Finished", .meth "Gate" "check_going", .meth "Gate" "event", .meth "Gate" "raise_floor", .meth "Gate" "finish", .meth "Gate" "take", .meth "Gate" "known", .meth "Gate" "late", .meth "Gate" "letters_of", .meth "Gate" "count_of", .exm "Finished" "Finished" true, .exm "BadName" "Finished" false, .exm "Finished" "BadName" false, .exm "BadName" "BadName" true, .noat "BadName" "name", .meth "Gate" "twin", .meth "Gate" "mark_of"]
def fas : List He.Fa := fas0 ++ (frees.map He.Fa.free ++ glos.map He.Fa.glo)
def cks : List Ck := [.opq, .same "Gate" "Gate" "lets_in", .same "Gate" "Gate" "check_going", .xcls "BadName", .xini "BadName" "name", .xat "BadName", .same "Gate" "Gate" "event", .same "Gate" "Gate" "raise_floor", .same "Gate" "Gate" "finish", .same "Gate" "Gate" "take", .any (propB "Gate" "floor"), .any (propB "Gate" "finished"), .same "Gate" "Gate" "known", .same "Gate" "Gate" "late", .same "Gate" "Gate" "letters_of", .same "Gate" "Gate" "count_of", .xat "Finished", .kitT "Finished" "ValueError" true, .xgl, .kitO "Finished" "MovedError" true, .kitO "BadName" "MovedError" true, .same "Gate" "Gate" "twin", .same "Gate" "Gate" "mark_of"]
def want : Wants := { fa := fas, ck := cks, fn := defs, cf := cdefs, file := PySem.Challenge.pw_movedstates_k05_what_the_gate_lets_in.main.file, gf := gdefs }
structure Tp (P : Program) (K : PySem.W.Frag) (mg : Str → Option Value) (base : Heap) : Prop where
  says : ∃ h, SaysM want K h
  free_ : ∀ (i : Nat) (x : Str), frees[i]? = some x → mg x = none
  glo_ : ∀ (i : Nat) (x : Str), glos[i]? = some x → mg x = some (.ref (He.ga K x))
  tabs : ∀ t ∈ tabsAll K, LamX.TabB base mg t.1 t.2.1
  file : ((P.main.file : Str) == want.file) = true
  ns : ∃ h, K.In h ∧ h.Ns mainGlobals mg
  sup : (P.main.scope.names.lookup ("super" : Str)).isSome = false
section
variable {P : Program} {w : World} {K : PySem.W.Frag} {mg : Str → Option Value} {base : Heap}
theorem Tp.free (T : Tp P K mg base) (i : Nat) {x : Str} (h : frees[i]? = some x := by rfl) : mg x = none := T.free_ i x h
theorem Tp.glo (T : Tp P K mg base) (i : Nat) {x : Str} (h : glos[i]? = some x := by rfl) : mg x = some (.ref (He.ga K x)) := T.glo_ i x h
theorem Tp.fn (T : Tp P K mg base) (i : Nat) (d : He.DefD) (e : defs[i]? = some d) : ∃ fd, FunD K d.name d.qual d.params d.body d.scope (d.dvs K) (d.kws K) (He.fAd K d.at_) fd := let ⟨_, s⟩ := T.says; s.d.def_ i e
theorem Tp.fng (T : Tp P K mg base) (i : Nat) (d : DefG) (e : gdefs[i]? = some d) : ∃ fd, FunD K d.name d.qual d.params d.body d.scope [] (d.kws K) (d.adr K) fd := let ⟨_, s⟩ := T.says; s.fng i e
theorem Tp.fac (T : Tp P K mg base) (i : Nat) {f : He.Fa} (e : fas[i]? = some f := by rfl) : f.ok K = true := let ⟨_, s⟩ := T.says; s.d.fact i e
theorem Tp.scaS (T : Tp P K mg base) (i : Nat) {x z : Str} (e : fas[i]? = some (.str x z) := by rfl) : ∃ t, mg x = some (.str z t) := let ⟨_, k, n⟩ := T.ns; He.str_ok k n (T.fac i e)
theorem Tp.scaI (T : Tp P K mg base) (i : Nat) {x : Str} {z : Int} (e : fas[i]? = some (.int x z) := by rfl) : ∃ t, mg x = some (.int z t) := let ⟨_, k, n⟩ := T.ns; He.int_ok k n (T.fac i e)
theorem Tp.ckf (T : Tp P K mg base) (i : Nat) {c : Ck} (e : cks[i]? = some c := by rfl) : c.ok K = true := let ⟨_, s⟩ := T.says; s.ckf i e
theorem Tp.fnc (T : Tp P K mg base) (i : Nat) (d : DefC) (e : cdefs[i]? = some d) {par : Str} (hp : ∃ ar, (d.params.posonlyargs ++ d.params.args).head? = some ar ∧ ar.arg = par) : ∃ fd cda cc, FunC K P mg d.name d.qual d.params d.body d.scope par (He.ga K d.cls) (He.fAd K d.at_) fd cda cc ∧ ∃ oc od osl, K.lookup (He.fAd K d.at_) = some ⟨oc, od, .func fd, osl⟩ :=
  let ⟨_, s⟩ := T.says; let ⟨e1, e2⟩ := s.fnc i e; DefC.funC e1 e2 T.file (opq_ok (T.ckf 0)) T.sup (T.free 0) hp
theorem Tp.tab (T : Tp P K mg base) {d : DefC} {fd : FuncData} {cda : Addr} (h : fd.qualname = d.qual ∧ fd.code = .ref cda ∧ ∃ oc od osl, K.lookup (He.fAd K d.at_) = some ⟨oc, od, .func fd, osl⟩) (hl : lamDefs.contains d.qual = true) (hc : (Ck.tab d.at_).ok K = true) :
    ∃ P, LamX.TabB base mg cda P ∧ (P, d.qual ++ ".<locals>." ++ "<lambda>") ∈ tabsOf K ∧ ∀ p ∈ tabsOf K, p.1 = P → p.2 = d.qual ++ ".<locals>." ++ "<lambda>" := by
  obtain ⟨_, s⟩ := T.says
  exact tab_at h hl hc T.tabs fun t ht => (s.th t ht).2.2.2
theorem xok_BadName (T : Tp P K mg base) : XOk P K mg "BadName" "BadName" "name" :=
  xok_of (d := d_BadName_init) (f := "name") (T.fnc 0 d_BadName_init rfl ⟨_, rfl, rfl⟩) rfl rfl rfl ⟨rfl, rfl, rfl, by decide +kernel, rfl, rfl, rfl, rfl, by decide, by decide⟩ (T.ckf 3) (T.ckf 4) (T.ckf 5) (T.glo 12) (fun _ => rfl) (fun _ _ _ _ _ _ _ _ _ _ => .of_eq rfl)
theorem sc_l_stream : FnScope ["_law_script", "_law_pairs", "_law_at", "_law_cell", "_law_rest", "_law_k"] ["_law_script"] (defScope s_l_stream) := ⟨rfl, rfl, rfl, by decide +kernel, rfl, by decide +kernel, by decide +kernel⟩
theorem ok_l_stream (T : Tp P K mg base) : Okd P w K mg base 1 ("_law_stream", none) ["_law_script"] F_l_stream :=
  okd_of (k := 0) (d := d_l_stream) (N := ["_law_script", "_law_pairs", "_law_at", "_law_cell", "_law_rest", "_law_k"]) rfl rfl (T.fn 0 d_l_stream rfl) sc_l_stream rfl rfl (fun _ _ _ _ _ _ us hl => match us, hl with | [_], _ => rfl) fun f cdv A outer s H E hr hp tk =>
    ds_cons (ds_set (i := 1) sc_l_stream.nd (de_lst (da_nil)))
    (ds_cons (ds_forE hp rfl (by rfl) (T.free 4) (da_cons (de_sl (de_var 0) (do_none) (do_some (de_int))) (da_nil)) (dg_tup rfl (dgs_cons (dg_name (i := 2) sc_l_stream.nd) (dgs_cons (dg_name (i := 3) sc_l_stream.nd) (dgs_nil)))) (ds_cons (ds_set (i := 4) sc_l_stream.nd (de_callB c_abs (by rfl) (T.free 1) bt_abs (da_cons (de_var 3) (da_nil))))
    (ds_cons (ds_if (dt_cmp o_lt (de_var 4) (de_int)) (ds_cons (ds_set (i := 4) sc_l_stream.nd (de_bin o_mod (de_callTy c_int1 (by rfl) (T.free 2) bt_int (da_cons (de_bin o_mul (de_var 4) (de_bin o_add (de_bin o_add (de_int) (de_bin o_mul (de_int) (de_var 2))) (de_callTy c_int1 (by rfl) (T.free 2) bt_int (da_cons (de_cmp o_lt (de_var 3) (de_int)) (da_nil))))) (da_nil))) (de_int)))
    (ds_one (ds_set (i := 4) sc_l_stream.nd (de_bin o_mod (de_callTy c_int1 (by rfl) (T.free 2) bt_int (da_cons (de_bin o_mul (de_var 4) (de_bin o_add (de_var 4) (de_int))) (da_nil))) (de_int))))) (ds_nil))
    (ds_one (ds_forR1 hp rfl (by rfl) (T.free 3) (da_cons (de_int) (da_nil)) (dg_name (i := 5) sc_l_stream.nd) (ds_cons (ds_expr (de_append (de_var 1) (da_cons (de_bin o_mod (de_callTy c_int1 (by rfl) (T.free 2) bt_int (da_cons (de_var 4) (da_nil))) (de_int)) (da_nil))))
    (ds_cons (ds_set (i := 4) sc_l_stream.nd (de_bin o_fdiv (de_var 4) (de_int)))
    (ds_one (ds_if (dt_cmp (o_eq hr.u64) (de_var 4) (de_int)) (ds_one (ds_brk)) (ds_nil))))))))))
    (ds_cons (ds_expr (de_reverse (de_var 1)))
    (ds_one (ds_ret (de_var 1)))))
theorem sc_l_draw : FnScope ["_law_stream_here", "_law_many"] ["_law_stream_here", "_law_many"] (defScope s_l_draw) := ⟨rfl, rfl, rfl, by decide +kernel, rfl, by decide +kernel, by decide +kernel⟩
theorem ok_l_draw (T : Tp P K mg base) : Okd P w K mg base 1 ("_law_draw", none) ["_law_stream_here", "_law_many"] F_l_draw :=
  okd_of (k := 0) (d := d_l_draw) (N := ["_law_stream_here", "_law_many"]) rfl rfl (T.fn 1 d_l_draw rfl) sc_l_draw rfl rfl (fun _ _ _ _ _ _ us hl => match us, hl with | [_, _], _ => rfl) fun f cdv A outer s H E hr hp tk =>
    ds_cons (ds_if (dt_cmp (o_eq hr.u64) (de_callB c_len (by rfl) (T.free 5) bt_len (da_cons (de_var 0) (da_nil))) (de_int)) (ds_one (ds_ret (de_int))) (ds_nil))
    (ds_one (ds_ret (de_bin o_mod (de_callTy c_int1 (by rfl) (T.free 2) bt_int (da_cons (de_pop0 (de_var 0)) (da_nil))) (de_var 1))))
theorem sc_l_span : FnScope ["_law_stream_here", "_law_pick"] ["_law_stream_here"] (defScope s_l_span) := ⟨rfl, rfl, rfl, by decide +kernel, rfl, by decide +kernel, by decide +kernel⟩
theorem ok_l_span (T : Tp P K mg base) : Okd P w K mg base 2 ("_law_span", none) ["_law_stream_here"] F_l_span :=
  okd_of (k := 1) (d := d_l_span) (N := ["_law_stream_here", "_law_pick"]) rfl rfl (T.fn 2 d_l_span rfl) sc_l_span rfl rfl (fun _ _ _ _ _ _ us hl => match us, hl with | [_], _ => rfl) fun f cdv A outer s H E hr hp tk =>
    ds_cons (ds_set (i := 1) sc_l_span.nd (de_callG tk (ok_l_draw T) hr (T.glo 1) (da_cons (de_var 0) (da_cons (de_int) (da_nil)))))
    (ds_cons (ds_if (dt_cmp o_lt (de_var 1) (de_int)) (ds_one (ds_ret (de_bin o_mod (de_callTy c_int1 (by rfl) (T.free 2) bt_int (da_cons (de_var 1) (da_nil))) (de_int)))) (ds_nil))
    (ds_cons (ds_if (dt_cmp (o_eq hr.u64) (de_var 1) (de_int)) (ds_one (ds_ret (de_callG tk (ok_l_draw T) hr (T.glo 1) (da_cons (de_var 0) (da_cons (de_int) (da_nil)))))) (ds_nil))
    (ds_one (ds_ret (de_bin o_addF (de_int) (de_callG tk (ok_l_draw T) hr (T.glo 1) (da_cons (de_var 0) (da_cons (de_int) (da_nil)))))))))
theorem sc_l_wide : FnScope ["_law_stream_here", "_law_size", "_law_k"] ["_law_stream_here"] (defScope s_l_wide) := ⟨rfl, rfl, rfl, by decide +kernel, rfl, by decide +kernel, by decide +kernel⟩
theorem ok_l_wide (T : Tp P K mg base) : Okd P w K mg base 2 ("_law_wide", none) ["_law_stream_here"] F_l_wide :=
  okd_of (k := 1) (d := d_l_wide) (N := ["_law_stream_here", "_law_size", "_law_k"]) rfl rfl (T.fn 3 d_l_wide rfl) sc_l_wide rfl rfl (fun _ _ _ _ _ _ us hl => match us, hl with | [_], _ => rfl) fun f cdv A outer s H E hr hp tk =>
    ds_cons (ds_set (i := 1) sc_l_wide.nd (de_int))
    (ds_cons (ds_forR1 hp rfl (by rfl) (T.free 3) (da_cons (de_int) (da_nil)) (dg_name (i := 2) sc_l_wide.nd) (ds_one (ds_set (i := 1) sc_l_wide.nd (de_bin o_addF (de_bin o_mul (de_var 1) (de_int)) (de_callG tk (ok_l_draw T) hr (T.glo 1) (da_cons (de_var 0) (da_cons (de_int) (da_nil))))))))
    (ds_cons (ds_if (dt_cmp (o_eq hr.u64) (de_callG tk (ok_l_draw T) hr (T.glo 1) (da_cons (de_var 0) (da_cons (de_int) (da_nil)))) (de_int)) (ds_one (ds_ret (de_un o_neg (de_var 1)))) (ds_nil))
    (ds_one (ds_ret (de_var 1)))))
theorem sc_l_value : FnScope ["_law_stream_here", "_law_style"] ["_law_stream_here", "_law_style"] (defScope s_l_value) := ⟨rfl, rfl, rfl, by decide +kernel, rfl, by decide +kernel, by decide +kernel⟩
theorem ok_l_value (T : Tp P K mg base) : Okd P w K mg base 3 ("_law_value", none) ["_law_stream_here", "_law_style"] F_l_value :=
  okd_of (k := 2) (d := d_l_value) (N := ["_law_stream_here", "_law_style"]) rfl rfl (T.fn 4 d_l_value rfl) sc_l_value rfl rfl (fun _ _ _ _ _ _ us hl => match us, hl with | [_, _], _ => rfl) fun f cdv A outer s H E hr hp tk =>
    ds_cons (ds_if (dt_cmp o_lt (de_var 1) (de_int)) (ds_one (ds_ret (de_callG tk (ok_l_draw T) hr (T.glo 1) (da_cons (de_var 0) (da_cons (de_int) (da_nil)))))) (ds_nil))
    (ds_cons (ds_if (dt_cmp (o_eq hr.u64) (de_var 1) (de_int)) (ds_one (ds_ret (de_callG tk (ok_l_draw T) hr (T.glo 1) (da_cons (de_var 0) (da_cons (de_int) (da_nil)))))) (ds_nil))
    (ds_cons (ds_if (dt_cmp (o_eq hr.u64) (de_var 1) (de_int)) (ds_one (ds_ret (de_bin o_sub (de_callG tk (ok_l_draw T) hr (T.glo 1) (da_cons (de_var 0) (da_cons (de_int) (da_nil)))) (de_callG tk (ok_l_draw T) hr (T.glo 1) (da_cons (de_var 0) (da_cons (de_int) (da_nil))))))) (ds_nil))
    (ds_cons (ds_if (dt_cmp (o_eq hr.u64) (de_var 1) (de_int)) (ds_one (ds_ret (de_bin o_mul (de_bin o_sub (de_callG tk (ok_l_draw T) hr (T.glo 1) (da_cons (de_var 0) (da_cons (de_int) (da_nil)))) (de_callG tk (ok_l_draw T) hr (T.glo 1) (da_cons (de_var 0) (da_cons (de_int) (da_nil))))) (de_int)))) (ds_nil))
    (ds_one (ds_ret (de_callG tk (ok_l_wide T) hr (T.glo 3) (da_cons (de_var 0) (da_nil))))))))
theorem sc_l_step : FnScope ["_law_stream_here", "_law_span_here", "_law_pick"] ["_law_stream_here", "_law_span_here"] (defScope s_l_step) := ⟨rfl, rfl, rfl, by decide +kernel, rfl, by decide +kernel, by decide +kernel⟩
theorem ok_l_step (T : Tp P K mg base) : Okd P w K mg base 2 ("_law_step", none) ["_law_stream_here", "_law_span_here"] F_l_step :=
  okd_of (k := 1) (d := d_l_step) (N := ["_law_stream_here", "_law_span_here", "_law_pick"]) rfl rfl (T.fn 5 d_l_step rfl) sc_l_step rfl rfl (fun _ _ _ _ _ _ us hl => match us, hl with | [_, _], _ => rfl) fun f cdv A outer s H E hr hp tk =>
    ds_cons (ds_set (i := 2) sc_l_step.nd (de_callG tk (ok_l_draw T) hr (T.glo 1) (da_cons (de_var 0) (da_cons (de_int) (da_nil)))))
    (ds_cons (ds_if (dt_cmp o_lt (de_var 2) (de_int)) (ds_one (ds_ret (de_int))) (ds_nil))
    (ds_cons (ds_if (dt_cmp (o_eq hr.u64) (de_var 2) (de_int)) (ds_one (ds_ret (de_var 1))) (ds_nil))
    (ds_cons (ds_if (dt_cmp (o_eq hr.u64) (de_var 2) (de_int)) (ds_one (ds_ret (de_bin o_addF (de_var 1) (de_int)))) (ds_nil))
    (ds_cons (ds_if (dt_cmp (o_eq hr.u64) (de_var 2) (de_int)) (ds_one (ds_ret (de_bin o_addF (de_bin o_addF (de_var 1) (de_int)) (de_callG tk (ok_l_draw T) hr (T.glo 1) (da_cons (de_var 0) (da_cons (de_int) (da_nil))))))) (ds_nil))
    (ds_cons (ds_if (dt_cmp (o_eq hr.u64) (de_var 2) (de_int)) (ds_one (ds_ret (de_bin o_fdiv (de_var 1) (de_int)))) (ds_nil))
    (ds_one (ds_ret (de_callG tk (ok_l_draw T) hr (T.glo 1) (da_cons (de_var 0) (da_cons (de_int) (da_nil)))))))))))
theorem sc_l_deeds : FnScope ["_law_stream_here", "_law_count", "_law_names", "_law_spots", "_law_span_here", "_law_style", "_law_deeds_here", "_law_left", "_law_now", "_law_k", "_law_spot", "_law_pick", "_law_name"] ["_law_stream_here", "_law_count", "_law_names", "_law_spots", "_law_span_here", "_law_style"] (defScope s_l_deeds) := ⟨rfl, rfl, rfl, by decide +kernel, rfl, by decide +kernel, by decide +kernel⟩
theorem ok_l_deeds (T : Tp P K mg base) : Okd P w K mg base 4 ("_law_deeds", none) ["_law_stream_here", "_law_count", "_law_names", "_law_spots", "_law_span_here", "_law_style"] F_l_deeds :=
  okd_of (k := 3) (d := d_l_deeds) (N := ["_law_stream_here", "_law_count", "_law_names", "_law_spots", "_law_span_here", "_law_style", "_law_deeds_here", "_law_left", "_law_now", "_law_k", "_law_spot", "_law_pick", "_law_name"]) rfl rfl (T.fn 6 d_l_deeds rfl) sc_l_deeds rfl rfl (fun _ _ _ _ _ _ us hl => match us, hl with | [_, _, _, _, _, _], _ => rfl) fun f cdv A outer s H E hr hp tk =>
    ds_cons (ds_set (i := 6) sc_l_deeds.nd (de_lst (da_nil)))
    (ds_cons (ds_set (i := 7) sc_l_deeds.nd (de_callTy c_list (by rfl) (T.free 6) bt_list (da_cons (de_var 3) (da_nil))))
    (ds_cons (ds_set (i := 8) sc_l_deeds.nd (de_callG tk (ok_l_value T) hr (T.glo 4) (da_cons (de_var 0) (da_cons (de_var 5) (da_nil)))))
    (ds_cons (ds_forR1 hp rfl (by rfl) (T.free 3) (da_cons (de_var 1) (da_nil)) (dg_name (i := 9) sc_l_deeds.nd) (ds_cons (ds_set (i := 11) sc_l_deeds.nd (de_callG tk (ok_l_draw T) hr (T.glo 1) (da_cons (de_var 0) (da_cons (de_int) (da_nil)))))
    (ds_cons (ds_set (i := 12) sc_l_deeds.nd (de_ix i_ix (de_var 2) (de_callG tk (ok_l_draw T) hr (T.glo 1) (da_cons (de_var 0) (da_cons (de_callB c_len (by rfl) (T.free 5) bt_len (da_cons (de_var 2) (da_nil))) (da_nil))))))
    (ds_one (ds_if (dt_cmp o_lt (de_var 11) (de_int)) (ds_cons (ds_set (i := 8) sc_l_deeds.nd (de_bin o_addF (de_var 8) (de_callG tk (ok_l_step T) hr (T.glo 5) (da_cons (de_var 0) (da_cons (de_var 4) (da_nil))))))
    (ds_one (ds_expr (de_append (de_var 6) (da_cons (de_tup (da_cons (de_str) (da_cons (de_var 12) (da_cons (de_var 8) (da_cons (de_callG tk (ok_l_value T) hr (T.glo 4) (da_cons (de_var 0) (da_cons (de_var 5) (da_nil)))) (da_nil)))))) (da_nil)))))) (ds_one (ds_if (dt_cmp (o_eq hr.u64) (de_var 11) (de_int)) (ds_one (ds_expr (de_append (de_var 6) (da_cons (de_tup (da_cons (de_str) (da_cons (de_var 12) (da_cons (de_bin o_sub (de_var 8) (de_callG tk (ok_l_draw T) hr (T.glo 1) (da_cons (de_var 0) (da_cons (de_int) (da_nil))))) (da_cons (de_callG tk (ok_l_value T) hr (T.glo 4) (da_cons (de_var 0) (da_cons (de_var 5) (da_nil)))) (da_nil)))))) (da_nil))))) (ds_one (ds_if (dt_cmp (o_eq hr.u64) (de_var 11) (de_int)) (ds_one (ds_expr (de_append (de_var 6) (da_cons (de_tup (da_cons (de_str) (da_cons (de_bin o_addF (de_bin o_sub (de_var 8) (de_int)) (de_callG tk (ok_l_draw T) hr (T.glo 1) (da_cons (de_var 0) (da_cons (de_int) (da_nil))))) (da_nil)))) (da_nil))))) (ds_one (ds_if (dt_cmp (o_eq hr.u64) (de_var 11) (de_int)) (ds_one (ds_expr (de_append (de_var 6) (da_cons (de_tup (da_cons (de_str) (da_cons (de_bin o_addF (de_bin o_addF (de_var 8) (de_var 4)) (de_callG tk (ok_l_draw T) hr (T.glo 1) (da_cons (de_var 0) (da_cons (de_int) (da_nil))))) (da_nil)))) (da_nil))))) (ds_one (ds_if (PW.pt (dw_and (dt_cmp (o_eq hr.u64) (de_var 11) (de_int)) (dw_and1 (dt_tru (de_var 7))))) (ds_one (ds_expr (de_append (de_var 6) (da_cons (de_tup (da_cons (de_str) (da_cons (de_pop1 (de_var 7) (da_cons (de_int) (da_nil))) (da_nil)))) (da_nil))))) (ds_one (ds_expr (de_append (de_var 6) (da_cons (de_tup (da_cons (de_str) (da_cons (de_bin o_sub (de_var 8) (de_callG tk (ok_l_draw T) hr (T.glo 1) (da_cons (de_var 0) (da_cons (de_int) (da_nil))))) (da_nil)))) (da_nil))))))))))))))))))
    (ds_cons (ds_for hp rfl (de_var 7) (dg_name (i := 10) sc_l_deeds.nd) (ds_one (ds_expr (de_append (de_var 6) (da_cons (de_tup (da_cons (de_str) (da_cons (de_var 10) (da_nil)))) (da_nil))))))
    (ds_one (ds_ret (de_var 6)))))))
theorem sc_l_world : FnScope ["_law_stream_here", "_law_menu", "_law_names", "_law_spots", "_law_span_here", "_law_style"] ["_law_stream_here"] (defScope s_l_world) := ⟨rfl, rfl, rfl, by decide +kernel, rfl, by decide +kernel, by decide +kernel⟩
theorem ok_l_world (T : Tp P K mg base) : Okd P w K mg base 5 ("_law_world", none) ["_law_stream_here"] F_l_world :=
  okd_of (k := 4) (d := d_l_world) (N := ["_law_stream_here", "_law_menu", "_law_names", "_law_spots", "_law_span_here", "_law_style"]) rfl rfl (T.fn 7 d_l_world rfl) sc_l_world rfl rfl (fun _ _ _ _ _ _ us hl => match us, hl with | [_], _ => rfl) fun f cdv A outer s H E hr hp tk =>
    ds_cons (ds_set (i := 1) sc_l_world.nd (de_tup (da_cons (de_tup (da_cons (de_str) (da_nil))) (da_cons (de_tup (da_cons (de_str) (da_cons (de_str) (da_nil)))) (da_cons (de_tup (da_cons (de_str) (da_cons (de_str) (da_nil)))) (da_cons (de_tup (da_cons (de_str) (da_cons (de_str) (da_cons (de_str) (da_nil))))) (da_cons (de_tup (da_cons (de_str) (da_cons (de_str) (da_cons (de_str) (da_nil))))) (da_nil))))))))
    (ds_cons (ds_set (i := 2) sc_l_world.nd (de_ix i_ix (de_var 1) (de_callG tk (ok_l_draw T) hr (T.glo 1) (da_cons (de_var 0) (da_cons (de_int) (da_nil))))))
    (ds_cons (ds_set (i := 3) sc_l_world.nd (de_ix i_ix (de_tup (da_cons (de_tup (da_nil)) (da_cons (de_tup (da_cons (de_tup (da_cons (de_int) (da_cons (de_int) (da_nil)))) (da_nil))) (da_cons (de_tup (da_cons (de_tup (da_cons (de_int) (da_nil))) (da_cons (de_tup (da_cons (de_int) (da_cons (de_int) (da_cons (de_int) (da_cons (de_int) (da_cons (de_int) (da_cons (de_int) (da_nil)))))))) (da_cons (de_tup (da_cons (de_int) (da_nil))) (da_nil))))) (da_nil))))) (de_callG tk (ok_l_draw T) hr (T.glo 1) (da_cons (de_var 0) (da_cons (de_int) (da_nil))))))
    (ds_cons (ds_set (i := 4) sc_l_world.nd (de_callG tk (ok_l_span T) hr (T.glo 2) (da_cons (de_var 0) (da_nil))))
    (ds_cons (ds_set (i := 5) sc_l_world.nd (de_callG tk (ok_l_draw T) hr (T.glo 1) (da_cons (de_var 0) (da_cons (de_int) (da_nil)))))
    (ds_one (ds_ret (de_tup (da_cons (de_var 2) (da_cons (de_callG tk (ok_l_deeds T) hr (T.glo 6) (da_cons (de_var 0) (da_cons (de_callG tk (ok_l_draw T) hr (T.glo 1) (da_cons (de_var 0) (da_cons (de_int) (da_nil)))) (da_cons (de_var 2) (da_cons (de_var 3) (da_cons (de_var 4) (da_cons (de_var 5) (da_nil)))))))) (da_nil))))))))))
theorem sc_Gate_init : FnScope ["self"] ["self"] (defScope s_Gate_init) := ⟨rfl, rfl, rfl, by decide +kernel, rfl, by decide +kernel, by decide +kernel⟩
theorem ok_Gate_init (T : Tp P K mg base) : Okd P w K mg base 1 ("Gate", some "__init__") ["self"] F_Gate_init :=
  okd_of (k := 0) (d := d_Gate_init) (N := ["self"]) rfl rfl (T.fn 8 d_Gate_init rfl) sc_Gate_init rfl rfl (fun _ _ _ _ _ _ us hl => match us, hl with | [_], _ => rfl) fun f cdv A outer s H E hr hp tk =>
    ds_cons (ds_setA (cs_cons ⟨He.cls_ok (T.fac 0), He.noat_ok (T.fac 1)⟩ (cs_nil)) (de_non) (de_var 0))
    (ds_cons (ds_setA (cs_cons ⟨He.cls_ok (T.fac 0), He.noat_ok (T.fac 2)⟩ (cs_nil)) (de_bl) (de_var 0))
    (ds_cons (ds_setA (cs_cons ⟨He.cls_ok (T.fac 0), He.noat_ok (T.fac 3)⟩ (cs_nil)) (de_newD) (de_var 0))
    (ds_cons (ds_setA (cs_cons ⟨He.cls_ok (T.fac 0), He.noat_ok (T.fac 4)⟩ (cs_nil)) (de_newD) (de_var 0))
    (ds_one (ds_setA (cs_cons ⟨He.cls_ok (T.fac 0), He.noat_ok (T.fac 5)⟩ (cs_nil)) (de_lst (da_nil)) (de_var 0))))))
theorem sc_is_name : FnScope ["text", "char"] ["text"] (defScope s_is_name) := ⟨rfl, rfl, rfl, by decide +kernel, rfl, by decide +kernel, by decide +kernel⟩
theorem ok_is_name (T : Tp P K mg base) : Okd P w K mg base 1 ("is_name", none) ["text"] F_is_name :=
  okd_of (k := 0) (d := d_is_name) (N := ["text", "char"]) rfl rfl (T.fn 9 d_is_name rfl) sc_is_name rfl rfl (fun _ _ _ _ _ _ us hl => match us, hl with | [_], _ => rfl) fun f cdv A outer s H E hr hp tk =>
    ds_cons (ds_if (dt_not (dt_tru (de_isi (by rfl) (T.free 7) (by rfl) (T.free 8) bt_str (de_var 0)))) (ds_one (ds_ret (de_bl))) (ds_nil))
    (ds_cons (ds_forS hp rfl (de_var 0) (dg_name (i := 1) sc_is_name.nd) (ds_one (ds_if (dt_cmp o_ninS (de_var 1) (de_strG (T.scaS 7))) (ds_one (ds_ret (de_bl))) (ds_nil))))
    (ds_one (ds_ret (de_and (de_cmp (o_ne hr.u64) (de_var 0) (de_str)) (de_one (de_cmp o_le (de_callB c_len (by rfl) (T.free 5) bt_len (da_cons (de_var 0) (da_nil))) (de_intG (T.scaI 8))))))))
theorem sc_Gate_lets_in : FnScope ["self", "key", "time", "letters"] ["self", "key", "time"] (defScope s_Gate_lets_in) := ⟨rfl, rfl, rfl, by decide +kernel, rfl, by decide +kernel, by decide +kernel⟩
theorem ok_Gate_lets_in (T : Tp P K mg base) : Okd P w K mg base 2 ("Gate", some "lets_in") ["self", "key", "time"] F_Gate_lets_in :=
  okd_of (k := 1) (d := d_Gate_lets_in) (N := ["self", "key", "time", "letters"]) rfl rfl (T.fn 10 d_Gate_lets_in rfl) sc_Gate_lets_in rfl rfl (fun _ _ _ _ _ _ us hl => match us, hl with | [_, _, _], _ => rfl) fun f cdv A outer s H E hr hp tk =>
    ds_cons (ds_if (PW.pt (dw_or (dt_tru (de_fld (cs_cons ⟨He.cls_ok (T.fac 0), He.noat_ok (T.fac 2)⟩ (cs_nil)) (de_var 0))) (dw_or1 (dt_not (dt_tru (de_callG tk (ok_is_name T) hr (T.glo 9) (da_cons (de_var 1) (da_nil)))))))) (ds_one (ds_ret (de_bl))) (ds_nil))
    (ds_cons (ds_if (PW.pt (dw_and (dt_cmp o_notN (de_fld (cs_cons ⟨He.cls_ok (T.fac 0), He.noat_ok (T.fac 1)⟩ (cs_nil)) (de_var 0)) (de_non)) (dw_and1 (dt_cmp o_lt (de_var 2) (de_fld (cs_cons ⟨He.cls_ok (T.fac 0), He.noat_ok (T.fac 1)⟩ (cs_nil)) (de_var 0)))))) (ds_one (ds_ret (de_bl))) (ds_nil))
    (ds_cons (ds_set (i := 3) sc_Gate_lets_in.nd (de_get2 hr.u1 (de_fld (cs_cons ⟨He.cls_ok (T.fac 0), He.noat_ok (T.fac 3)⟩ (cs_nil)) (de_var 0)) (de_var 1) (de_lstF (da_nil)) ⟨rfl, rfl, rfl, rfl⟩))
    (ds_one (ds_ret (de_or (de_cmp (o_eq hr.u64) (de_var 3) (de_lstF (da_nil))) (de_one (de_cmp o_ge (de_var 2) (de_ix i_ix (de_ix i_ix (de_var 3) (de_un o_neg (de_int))) (de_int)))))))))
theorem sc_l_lets : FnScope ["_law_state", "_law_name", "_law_time", "_law_row", "_law_letters", "_law_floor", "_law_counts", "_law_done", "_law_late"] ["_law_state", "_law_name", "_law_time"] (defScope s_l_lets) := ⟨rfl, rfl, rfl, by decide +kernel, rfl, by decide +kernel, by decide +kernel⟩
theorem ok_l_lets (T : Tp P K mg base) : Okd P w K mg base 1 ("_law_lets", none) ["_law_state", "_law_name", "_law_time"] F_l_lets :=
  okd_of (k := 0) (d := d_l_lets) (N := ["_law_state", "_law_name", "_law_time", "_law_row", "_law_letters", "_law_floor", "_law_counts", "_law_done", "_law_late"]) rfl rfl (T.fn 11 d_l_lets rfl) sc_l_lets rfl rfl (fun _ _ _ _ _ _ us hl => match us, hl with | [_, _, _], _ => rfl) fun f cdv A outer s H E hr hp tk =>
    ds_cons (ds_asg (de_var 0) (dg_tup rfl (dgs_cons (dg_name (i := 4) sc_l_lets.nd) (dgs_cons (dg_name (i := 5) sc_l_lets.nd) (dgs_cons (dg_name (i := 6) sc_l_lets.nd) (dgs_cons (dg_name (i := 7) sc_l_lets.nd) (dgs_cons (dg_name (i := 8) sc_l_lets.nd) (dgs_nil))))))))
    (ds_cons (ds_set (i := 3) sc_l_lets.nd (de_get2 hr.u1 (de_var 4) (de_var 1) (de_lstF (da_nil)) ⟨rfl, rfl, rfl, rfl⟩))
    (ds_cons (ds_if (PW.pt (dw_or (dt_tru (de_var 7)) (dw_or1 (PW.pt (dw_and (dt_cmp o_notN (de_var 5) (de_non)) (dw_and1 (dt_cmp o_lt (de_var 2) (de_var 5)))))))) (ds_one (ds_ret (de_bl))) (ds_nil))
    (ds_one (ds_ret (de_or (de_cmp (o_eq hr.u64) (de_callB c_len (by rfl) (T.free 5) bt_len (da_cons (de_var 3) (da_nil))) (de_int)) (de_one (de_cmp o_ge (de_var 2) (de_ix i_ix (de_ix i_ix (de_var 3) (de_un o_neg (de_int))) (de_int)))))))))
theorem sc_Gate_check_going : FnScope ["self"] ["self"] (defScope s_Gate_check_going) := ⟨rfl, rfl, rfl, by decide +kernel, rfl, by decide +kernel, by decide +kernel⟩
theorem ok_Gate_check_going (T : Tp P K mg base) : Okd P w K mg base 2 ("Gate", some "check_going") ["self"] F_Gate_check_going :=
  okd_of (k := 1) (d := d_Gate_check_going) (N := ["self"]) rfl rfl (T.fn 12 d_Gate_check_going rfl) sc_Gate_check_going rfl rfl (fun _ _ _ _ _ _ us hl => match us, hl with | [_], _ => rfl) fun f cdv A outer s H E hr hp tk =>
    ds_one (ds_if (dt_tru (de_fld (cs_cons ⟨He.cls_ok (T.fac 0), He.noat_ok (T.fac 2)⟩ (cs_nil)) (de_var 0))) (ds_one (ds_raiseT rfl (T.fac 10) (T.glo 11) tk (by rfl))) (ds_nil))
theorem sc_check_name : FnScope ["text"] ["text"] (defScope s_check_name) := ⟨rfl, rfl, rfl, by decide +kernel, rfl, by decide +kernel, by decide +kernel⟩
theorem ok_check_name (T : Tp P K mg base) : Okd P w K mg base 3 ("check_name", none) ["text"] F_check_name :=
  okd_of (k := 2) (d := d_check_name) (N := ["text"]) rfl rfl (T.fn 13 d_check_name rfl) sc_check_name rfl rfl (fun _ _ _ _ _ _ us hl => match us, hl with | [_], _ => rfl) fun f cdv A outer s H E hr hp tk =>
    ds_one (ds_if (dt_not (dt_tru (de_callG tk (ok_is_name T) hr (T.glo 9) (da_cons (de_var 0) (da_nil))))) (ds_one (ds_raise rfl (xok_BadName T) hr tk (da_cons (de_var 0) (da_nil)) (by rfl))) (ds_nil))
theorem sc_Gate_event : FnScope ["self", "key", "time", "value", "letters"] ["self", "key", "time", "value"] (defScope s_Gate_event) := ⟨rfl, rfl, rfl, by decide +kernel, rfl, by decide +kernel, by decide +kernel⟩
theorem ok_Gate_event (T : Tp P K mg base) : Okd P w K mg base 4 ("Gate", some "event") ["self", "key", "time", "value"] F_Gate_event :=
  okd_of (k := 3) (d := d_Gate_event) (N := ["self", "key", "time", "value", "letters"]) rfl rfl (T.fn 14 d_Gate_event rfl) sc_Gate_event rfl rfl (fun _ _ _ _ _ _ us hl => match us, hl with | [_, _, _, _], _ => rfl) fun f cdv A outer s H E hr hp tk =>
    ds_cons (ds_expr (de_meth0 (k := 2) (tab := mt_check_going) tk (tab_cons (methT_of (ok_Gate_check_going T) (He.cls_ok (T.fac 0)) (He.meth_ok (T.fac 11)) (same_ok (T.ckf 2))) (tab_nil)) hr (de_var 0)))
    (ds_cons (ds_expr (de_callG tk (ok_check_name T) hr (T.glo 13) (da_cons (de_var 1) (da_nil))))
    (ds_cons (ds_if (dt_not (dt_tru (de_meth (k := 2) (tab := mt_lets_in) tk (tab_cons (methT_of (ok_Gate_lets_in T) (He.cls_ok (T.fac 0)) (He.meth_ok (T.fac 9)) (same_ok (T.ckf 1))) (tab_nil)) hr (de_var 0) (da_cons (de_var 1) (da_cons (de_var 2) (da_nil)))))) (ds_cons (ds_expr (de_append (de_fld (cs_cons ⟨He.cls_ok (T.fac 0), He.noat_ok (T.fac 5)⟩ (cs_nil)) (de_var 0)) (da_cons (de_tup (da_cons (de_var 1) (da_cons (de_var 2) (da_cons (de_var 3) (da_nil))))) (da_nil))))
    (ds_one (ds_ret (de_non)))) (ds_nil))
    (ds_cons (ds_set (i := 4) sc_Gate_event.nd (de_get2 hr.u1 (de_fld (cs_cons ⟨He.cls_ok (T.fac 0), He.noat_ok (T.fac 3)⟩ (cs_nil)) (de_var 0)) (de_var 1) (de_lstF (da_nil)) ⟨rfl, rfl, rfl, rfl⟩))
    (ds_cons (ds_dput hr.u1 (de_bin o_addF (de_var 4) (de_lstF (da_cons (de_tup (da_cons (de_callB c_len (by rfl) (T.free 5) bt_len (da_cons (de_var 4) (da_nil))) (da_cons (de_var 2) (da_cons (de_var 3) (da_nil))))) (da_nil)))) (de_fld (cs_cons ⟨He.cls_ok (T.fac 0), He.noat_ok (T.fac 3)⟩ (cs_nil)) (de_var 0)) (de_var 1))
    (ds_one (ds_ret (de_callB c_len (by rfl) (T.free 5) bt_len (da_cons (de_var 4) (da_nil)))))))))
theorem sc_Gate_raise_floor : FnScope ["self", "time", "key"] ["self", "time"] (defScope s_Gate_raise_floor) := ⟨rfl, rfl, rfl, by decide +kernel, rfl, by decide +kernel, by decide +kernel⟩
theorem ok_Gate_raise_floor (T : Tp P K mg base) : Okd P w K mg base 3 ("Gate", some "raise_floor") ["self", "time"] F_Gate_raise_floor :=
  okd_of (k := 2) (d := d_Gate_raise_floor) (N := ["self", "time", "key"]) rfl rfl (T.fn 15 d_Gate_raise_floor rfl) sc_Gate_raise_floor rfl rfl (fun _ _ _ _ _ _ us hl => match us, hl with | [_, _], _ => rfl) fun f cdv A outer s H E hr hp tk =>
    ds_cons (ds_expr (de_meth0 (k := 2) (tab := mt_check_going) tk (tab_cons (methT_of (ok_Gate_check_going T) (He.cls_ok (T.fac 0)) (He.meth_ok (T.fac 11)) (same_ok (T.ckf 2))) (tab_nil)) hr (de_var 0)))
    (ds_cons (ds_if (PW.pt (dw_and (dt_cmp o_notN (de_fld (cs_cons ⟨He.cls_ok (T.fac 0), He.noat_ok (T.fac 1)⟩ (cs_nil)) (de_var 0)) (de_non)) (dw_and1 (dt_cmp o_le (de_var 1) (de_fld (cs_cons ⟨He.cls_ok (T.fac 0), He.noat_ok (T.fac 1)⟩ (cs_nil)) (de_var 0)))))) (ds_one (ds_ret (de_bl))) (ds_nil))
    (ds_cons (ds_setA (cs_cons ⟨He.cls_ok (T.fac 0), He.noat_ok (T.fac 1)⟩ (cs_nil)) (de_var 1) (de_var 0))
    (ds_cons (ds_setA (cs_cons ⟨He.cls_ok (T.fac 0), He.noat_ok (T.fac 4)⟩ (cs_nil)) (de_dcK rfl sc_Gate_raise_floor.nd (de_fld (cs_cons ⟨He.cls_ok (T.fac 0), He.noat_ok (T.fac 3)⟩ (cs_nil)) (de_var 0)) (fun _ _ _ h => fpA_ok h) (blkOk_by (N := ["self", "time", "key"]) (sc := defScope s_Gate_raise_floor) (by decide +kernel)) (fun _ _ _ _ _ => pg_name (i := 2) sc_Gate_raise_floor.nd rfl (Or.inl rfl)) (fun _ _ _ _ _ => de_var 2) (fun _ _ _ _ _ => de_callB c_len (by rfl) (T.free 5) bt_len (da_cons (de_ixK hr.u1 (de_fld (cs_cons ⟨He.cls_ok (T.fac 0), He.noat_ok (T.fac 3)⟩ (cs_nil)) (de_var 0)) (de_var 2)) (da_nil)))) (de_var 0))
    (ds_one (ds_ret (de_bl))))))
theorem sc_Gate_finish : FnScope ["self"] ["self"] (defScope s_Gate_finish) := ⟨rfl, rfl, rfl, by decide +kernel, rfl, by decide +kernel, by decide +kernel⟩
theorem ok_Gate_finish (T : Tp P K mg base) : Okd P w K mg base 3 ("Gate", some "finish") ["self"] F_Gate_finish :=
  okd_of (k := 2) (d := d_Gate_finish) (N := ["self"]) rfl rfl (T.fn 16 d_Gate_finish rfl) sc_Gate_finish rfl rfl (fun _ _ _ _ _ _ us hl => match us, hl with | [_], _ => rfl) fun f cdv A outer s H E hr hp tk =>
    ds_cons (ds_expr (de_meth0 (k := 2) (tab := mt_check_going) tk (tab_cons (methT_of (ok_Gate_check_going T) (He.cls_ok (T.fac 0)) (He.meth_ok (T.fac 11)) (same_ok (T.ckf 2))) (tab_nil)) hr (de_var 0)))
    (ds_one (ds_setA (cs_cons ⟨He.cls_ok (T.fac 0), He.noat_ok (T.fac 2)⟩ (cs_nil)) (de_bl) (de_var 0)))
theorem sc_Gate_take : FnScope ["self", "deed"] ["self", "deed"] (defScope s_Gate_take) := ⟨rfl, rfl, rfl, by decide +kernel, rfl, by decide +kernel, by decide +kernel⟩
theorem ok_Gate_take (T : Tp P K mg base) : Okd P w K mg base 5 ("Gate", some "take") ["self", "deed"] F_Gate_take :=
  okd_of (k := 4) (d := d_Gate_take) (N := ["self", "deed"]) rfl rfl (T.fn 17 d_Gate_take rfl) sc_Gate_take rfl rfl (fun _ _ _ _ _ _ us hl => match us, hl with | [_, _], _ => rfl) fun f cdv A outer s H E hr hp tk =>
    ds_cons (ds_expr (de_meth0 (k := 2) (tab := mt_check_going) tk (tab_cons (methT_of (ok_Gate_check_going T) (He.cls_ok (T.fac 0)) (He.meth_ok (T.fac 11)) (same_ok (T.ckf 2))) (tab_nil)) hr (de_var 0)))
    (ds_cons (ds_if (dt_cmp (o_eq hr.u64) (de_ix i_ix (de_var 1) (de_int)) (de_str)) (ds_one (ds_ret (de_meth (k := 4) (tab := mt_event) tk (tab_cons (methT_of (ok_Gate_event T) (He.cls_ok (T.fac 0)) (He.meth_ok (T.fac 12)) (same_ok (T.ckf 6))) (tab_nil)) hr (de_var 0) (da_cons (de_ix i_ix (de_var 1) (de_int)) (da_cons (de_ix i_ix (de_var 1) (de_int)) (da_cons (de_ix i_ix (de_var 1) (de_int)) (da_nil))))))) (ds_nil))
    (ds_cons (ds_if (dt_cmp (o_eq hr.u64) (de_ix i_ix (de_var 1) (de_int)) (de_str)) (ds_one (ds_ret (de_meth (k := 3) (tab := mt_raise_floor) tk (tab_cons (methT_of (ok_Gate_raise_floor T) (He.cls_ok (T.fac 0)) (He.meth_ok (T.fac 13)) (same_ok (T.ckf 7))) (tab_nil)) hr (de_var 0) (da_cons (de_ix i_ix (de_var 1) (de_int)) (da_nil))))) (ds_nil))
    (ds_cons (ds_if (dt_cmp (o_eq hr.u64) (de_ix i_ix (de_var 1) (de_int)) (de_str)) (ds_one (ds_expr (de_meth0 (k := 3) (tab := mt_finish) tk (tab_cons (methT_of (ok_Gate_finish T) (He.cls_ok (T.fac 0)) (He.meth_ok (T.fac 14)) (same_ok (T.ckf 8))) (tab_nil)) hr (de_var 0)))) (ds_nil))
    (ds_one (ds_ret (de_non))))))
theorem sc_l_taken : FnScope ["_law_gate_here", "_law_state", "_law_deed", "_law_straight", "_law_told", "_law_number", "_law_letters", "_law_floor", "_law_counts", "_law_done", "_law_late", "_law_found"] ["_law_gate_here", "_law_state", "_law_deed", "_law_straight"] (defScope s_l_taken) := ⟨rfl, rfl, rfl, by decide +kernel, rfl, by decide +kernel, by decide +kernel⟩
theorem ok_l_taken (T : Tp P K mg base) : Okd P w K mg base 6 ("_law_taken", none) ["_law_gate_here", "_law_state", "_law_deed", "_law_straight"] F_l_taken :=
  okd_of (k := 5) (d := d_l_taken) (N := ["_law_gate_here", "_law_state", "_law_deed", "_law_straight", "_law_told", "_law_number", "_law_letters", "_law_floor", "_law_counts", "_law_done", "_law_late", "_law_found"]) rfl rfl (T.fn 18 d_l_taken rfl) sc_l_taken rfl rfl (fun _ _ _ _ _ _ us hl => match us, hl with | [_, _, _, _], _ => rfl) fun f cdv A outer s H E hr hp tk =>
    ds_cons (ds_asg (de_var 1) (dg_tup rfl (dgs_cons (dg_name (i := 6) sc_l_taken.nd) (dgs_cons (dg_name (i := 7) sc_l_taken.nd) (dgs_cons (dg_name (i := 8) sc_l_taken.nd) (dgs_cons (dg_name (i := 9) sc_l_taken.nd) (dgs_cons (dg_name (i := 10) sc_l_taken.nd) (dgs_nil))))))))
    (ds_cons (ds_set (i := 4) sc_l_taken.nd (de_bl))
    (ds_cons (ds_if (dt_cmp (o_eq hr.u64) (de_ix i_ix (de_var 2) (de_int)) (de_str)) (ds_cons (ds_set (i := 4) sc_l_taken.nd (de_meth (k := 2) (tab := mt_lets_in) tk (tab_cons (methT_of (ok_Gate_lets_in T) (He.cls_ok (T.fac 0)) (He.meth_ok (T.fac 9)) (same_ok (T.ckf 1))) (tab_nil)) hr (de_var 0) (da_cons (de_ix i_ix (de_var 2) (de_int)) (da_cons (de_ix i_ix (de_var 2) (de_int)) (da_nil)))))
    (ds_one (ds_if (PW.pt (dw_or (dt_not (dt_tru (de_isi (by rfl) (T.free 7) (by rfl) (T.free 9) bt_bool (de_var 4)))) (dw_or1 (dt_cmp (o_ne hr.u64) (de_var 4) (de_callG tk (ok_l_lets T) hr (T.glo 10) (da_cons (de_var 1) (da_cons (de_ix i_ix (de_var 2) (de_int)) (da_cons (de_ix i_ix (de_var 2) (de_int)) (da_nil))))))))) (ds_one (ds_ret (de_bl))) (ds_nil)))) (ds_nil))
    (ds_cons (ds_if (PW.pt (dw_and (dt_tru (de_var 3)) (dw_and1 (dt_cmp (o_eq hr.u64) (de_ix i_ix (de_var 2) (de_int)) (de_str))))) (ds_one (ds_set (i := 11) sc_l_taken.nd (de_meth (k := 4) (tab := mt_event) tk (tab_cons (methT_of (ok_Gate_event T) (He.cls_ok (T.fac 0)) (He.meth_ok (T.fac 12)) (same_ok (T.ckf 6))) (tab_nil)) hr (de_var 0) (da_cons (de_ix i_ix (de_var 2) (de_int)) (da_cons (de_ix i_ix (de_var 2) (de_int)) (da_cons (de_ix i_ix (de_var 2) (de_int)) (da_nil))))))) (ds_one (ds_if (PW.pt (dw_and (dt_tru (de_var 3)) (dw_and1 (dt_cmp (o_eq hr.u64) (de_ix i_ix (de_var 2) (de_int)) (de_str))))) (ds_one (ds_set (i := 11) sc_l_taken.nd (de_meth (k := 3) (tab := mt_raise_floor) tk (tab_cons (methT_of (ok_Gate_raise_floor T) (He.cls_ok (T.fac 0)) (He.meth_ok (T.fac 13)) (same_ok (T.ckf 7))) (tab_nil)) hr (de_var 0) (da_cons (de_ix i_ix (de_var 2) (de_int)) (da_nil))))) (ds_one (ds_set (i := 11) sc_l_taken.nd (de_meth (k := 5) (tab := mt_take) tk (tab_cons (methT_of (ok_Gate_take T) (He.cls_ok (T.fac 0)) (He.meth_ok (T.fac 15)) (same_ok (T.ckf 9))) (tab_nil)) hr (de_var 0) (da_cons (de_var 2) (da_nil))))))))
    (ds_cons (ds_if (dt_cmp (o_eq hr.u64) (de_ix i_ix (de_var 2) (de_int)) (de_str)) (ds_one (ds_ret (de_and (de_isi (by rfl) (T.free 7) (by rfl) (T.free 9) bt_bool (de_var 11)) (de_one (de_cmp (o_eq hr.u64) (de_var 11) (de_or (de_cmp o_isN (de_var 7) (de_non)) (de_one (de_cmp o_gt (de_ix i_ix (de_var 2) (de_int)) (de_var 7))))))))) (ds_nil))
    (ds_cons (ds_if (dt_not (dt_tru (de_var 4))) (ds_one (ds_ret (de_cmp o_isN (de_var 11) (de_non)))) (ds_nil))
    (ds_cons (ds_set (i := 5) sc_l_taken.nd (de_callB c_len (by rfl) (T.free 5) bt_len (da_cons (de_get2 hr.u1 (de_var 6) (de_ix i_ix (de_var 2) (de_int)) (de_lstF (da_nil)) ⟨rfl, rfl, rfl, rfl⟩) (da_nil))))
    (ds_one (ds_ret (de_and (de_isi (by rfl) (T.free 7) (by rfl) (T.free 2) bt_int (de_var 11)) (de_and (de_not (de_isi (by rfl) (T.free 7) (by rfl) (T.free 9) bt_bool (de_var 11))) (de_one (de_cmp (o_eq hr.u64) (de_var 11) (de_var 5)))))))))))))
theorem sc_l_gate : FnScope ["_law_deeds_here", "_law_letters", "_law_floor", "_law_counts", "_law_done", "_law_late", "_law_deed", "_law_name", "_law_row"] ["_law_deeds_here"] (defScope s_l_gate) := ⟨rfl, rfl, rfl, by decide +kernel, rfl, by decide +kernel, by decide +kernel⟩
theorem ok_l_gate (T : Tp P K mg base) : Okd P w K mg base 1 ("_law_gate", none) ["_law_deeds_here"] F_l_gate :=
  okd_of (k := 0) (d := d_l_gate) (N := ["_law_deeds_here", "_law_letters", "_law_floor", "_law_counts", "_law_done", "_law_late", "_law_deed", "_law_name", "_law_row"]) rfl rfl (T.fn 19 d_l_gate rfl) sc_l_gate rfl rfl (fun _ _ _ _ _ _ us hl => match us, hl with | [_], _ => rfl) fun f cdv A outer s H E hr hp tk =>
    ds_cons (ds_set (i := 1) sc_l_gate.nd (de_newD))
    (ds_cons (ds_set (i := 2) sc_l_gate.nd (de_non))
    (ds_cons (ds_set (i := 3) sc_l_gate.nd (de_newD))
    (ds_cons (ds_set (i := 4) sc_l_gate.nd (de_bl))
    (ds_cons (ds_set (i := 5) sc_l_gate.nd (de_lst (da_nil)))
    (ds_cons (ds_for hp rfl (de_var 0) (dg_name (i := 6) sc_l_gate.nd) (ds_cons (ds_if (PW.pt (dw_and (dt_cmp (o_eq hr.u64) (de_ix i_ix (de_var 6) (de_int)) (de_str)) (dw_and1 (PW.pt (dw_or (dt_cmp o_isN (de_var 2) (de_non)) (dw_or1 (dt_cmp o_gt (de_ix i_ix (de_var 6) (de_int)) (de_var 2)))))))) (ds_cons (ds_set (i := 2) sc_l_gate.nd (de_ix i_ix (de_var 6) (de_int)))
    (ds_cons (ds_set (i := 3) sc_l_gate.nd (de_newD))
    (ds_one (ds_forK hp rfl (de_var 1) (fun _ _ _ h => fpV_ok h) (dg_name (i := 7) sc_l_gate.nd) (ds_one (ds_dput hr.u1 (de_callB c_len (by rfl) (T.free 5) bt_len (da_cons (de_ixK hr.u1 (de_var 1) (de_var 7)) (da_nil))) (de_var 3) (de_var 7))))))) (ds_nil))
    (ds_cons (ds_if (dt_cmp (o_eq hr.u64) (de_ix i_ix (de_var 6) (de_int)) (de_str)) (ds_one (ds_set (i := 4) sc_l_gate.nd (de_bl))) (ds_nil))
    (ds_one (ds_if (dt_cmp (o_eq hr.u64) (de_ix i_ix (de_var 6) (de_int)) (de_str)) (ds_cons (ds_set (i := 8) sc_l_gate.nd (de_get2 hr.u1 (de_var 1) (de_ix i_ix (de_var 6) (de_int)) (de_lstF (da_nil)) ⟨rfl, rfl, rfl, rfl⟩))
    (ds_one (ds_if (PW.pt (dw_or (PW.pt (dw_and (dt_cmp o_notN (de_var 2) (de_non)) (dw_and1 (dt_cmp o_lt (de_ix i_ix (de_var 6) (de_int)) (de_var 2))))) (dw_or1 (PW.pt (dw_and (dt_tru (de_var 8)) (dw_and1 (dt_cmp o_lt (de_ix i_ix (de_var 6) (de_int)) (de_ix i_ix (de_ix i_ix (de_var 8) (de_un o_neg (de_int))) (de_int))))))))) (ds_one (ds_expr (de_append (de_var 5) (da_cons (de_tup (da_cons (de_ix i_ix (de_var 6) (de_int)) (da_cons (de_ix i_ix (de_var 6) (de_int)) (da_cons (de_ix i_ix (de_var 6) (de_int)) (da_nil))))) (da_nil))))) (ds_one (ds_dput hr.u1 (de_bin o_addF (de_var 8) (de_lstF (da_cons (de_tup (da_cons (de_callB c_len (by rfl) (T.free 5) bt_len (da_cons (de_var 8) (da_nil))) (da_cons (de_ix i_ix (de_var 6) (de_int)) (da_cons (de_ix i_ix (de_var 6) (de_int)) (da_nil))))) (da_nil)))) (de_var 1) (de_ix i_ix (de_var 6) (de_int))))))) (ds_nil))))))
    (ds_one (ds_ret (de_tup (da_cons (de_var 1) (da_cons (de_var 2) (da_cons (de_var 3) (da_cons (de_var 4) (da_cons (de_var 5) (da_nil))))))))))))))
theorem sc_Gate_floor : FnScope ["self"] ["self"] (defScope s_Gate_floor) := ⟨rfl, rfl, rfl, by decide +kernel, rfl, by decide +kernel, by decide +kernel⟩
theorem ok_Gate_floor (T : Tp P K mg base) : OkA P w K mg base 1 (getA "Gate" "floor" K) ["self"] F_Gate_floor :=
  okA_of (k := 0) (d := d_Gate_floor) (N := ["self"]) (T.fng 0 d_Gate_floor rfl) sc_Gate_floor rfl rfl (fun _ _ _ _ _ _ us hl => match us, hl with | [_], _ => rfl) fun f cdv A outer s H E hr hp tk =>
    ds_one (ds_ret (de_fld (cs_cons ⟨He.cls_ok (T.fac 0), He.noat_ok (T.fac 1)⟩ (cs_nil)) (de_var 0)))
theorem sc_Gate_finished : FnScope ["self"] ["self"] (defScope s_Gate_finished) := ⟨rfl, rfl, rfl, by decide +kernel, rfl, by decide +kernel, by decide +kernel⟩
theorem ok_Gate_finished (T : Tp P K mg base) : OkA P w K mg base 1 (getA "Gate" "finished" K) ["self"] F_Gate_finished :=
  okA_of (k := 0) (d := d_Gate_finished) (N := ["self"]) (T.fng 1 d_Gate_finished rfl) sc_Gate_finished rfl rfl (fun _ _ _ _ _ _ us hl => match us, hl with | [_], _ => rfl) fun f cdv A outer s H E hr hp tk =>
    ds_one (ds_ret (de_fld (cs_cons ⟨He.cls_ok (T.fac 0), He.noat_ok (T.fac 2)⟩ (cs_nil)) (de_var 0)))
theorem sc_Gate_known : FnScope ["self"] ["self"] (defScope s_Gate_known) := ⟨rfl, rfl, rfl, by decide +kernel, rfl, by decide +kernel, by decide +kernel⟩
theorem okn_Gate_known (T : Tp P K mg base) : Okd P w K mg base 1 ("Gate", some "known") ["self"] F_Gate_known_n :=
  okd_of (k := 0) (d := d_Gate_known) (N := ["self"]) rfl rfl (T.fn 20 d_Gate_known rfl) sc_Gate_known rfl rfl (fun _ _ _ _ _ _ us hl => match us, hl with | [_], _ => rfl) fun f cdv A outer s H E hr hp tk =>
    ds_one (ds_ret (de_callB (c_sortSC hr) (by rfl) (T.free 10) bt_sorted (da_cons (de_callTy (c_listKP rfl) (by rfl) (T.free 6) bt_list (da_cons (de_fld (cs_cons ⟨He.cls_ok (T.fac 0), He.noat_ok (T.fac 3)⟩ (cs_nil)) (de_var 0)) (da_nil))) (da_nil))))
theorem sc_Gate_late : FnScope ["self"] ["self"] (defScope s_Gate_late) := ⟨rfl, rfl, rfl, by decide +kernel, rfl, by decide +kernel, by decide +kernel⟩
theorem okn_Gate_late (T : Tp P K mg base) : Okd P w K mg base 1 ("Gate", some "late") ["self"] F_Gate_late_n :=
  okd_of (k := 0) (d := d_Gate_late) (N := ["self"]) rfl rfl (T.fn 21 d_Gate_late rfl) sc_Gate_late rfl rfl (fun _ _ _ _ _ _ us hl => match us, hl with | [_], _ => rfl) fun f cdv A outer s H E hr hp tk =>
    ds_one (ds_ret (de_callTy c_list (by rfl) (T.free 6) bt_list (da_cons (de_fld (cs_cons ⟨He.cls_ok (T.fac 0), He.noat_ok (T.fac 5)⟩ (cs_nil)) (de_var 0)) (da_nil))))
theorem sc_Gate_letters_of : FnScope ["self", "key"] ["self", "key"] (defScope s_Gate_letters_of) := ⟨rfl, rfl, rfl, by decide +kernel, rfl, by decide +kernel, by decide +kernel⟩
theorem okn_Gate_letters_of (T : Tp P K mg base) : Okd P w K mg base 1 ("Gate", some "letters_of") ["self", "key"] F_Gate_letters_of_n :=
  okd_of (k := 0) (d := d_Gate_letters_of) (N := ["self", "key"]) rfl rfl (T.fn 22 d_Gate_letters_of rfl) sc_Gate_letters_of rfl rfl (fun _ _ _ _ _ _ us hl => match us, hl with | [_, _], _ => rfl) fun f cdv A outer s H E hr hp tk =>
    ds_one (ds_ret (de_callTy c_list (by rfl) (T.free 6) bt_list (da_cons (de_get2 hr.u1 (de_fld (cs_cons ⟨He.cls_ok (T.fac 0), He.noat_ok (T.fac 3)⟩ (cs_nil)) (de_var 0)) (de_var 1) (de_lstF (da_nil)) ⟨rfl, rfl, rfl, rfl⟩) (da_nil))))
theorem sc_Gate_count_of : FnScope ["self", "key"] ["self", "key"] (defScope s_Gate_count_of) := ⟨rfl, rfl, rfl, by decide +kernel, rfl, by decide +kernel, by decide +kernel⟩
theorem ok_Gate_count_of (T : Tp P K mg base) : Okd P w K mg base 1 ("Gate", some "count_of") ["self", "key"] F_Gate_count_of :=
  okd_of (k := 0) (d := d_Gate_count_of) (N := ["self", "key"]) rfl rfl (T.fn 23 d_Gate_count_of rfl) sc_Gate_count_of rfl rfl (fun _ _ _ _ _ _ us hl => match us, hl with | [_, _], _ => rfl) fun f cdv A outer s H E hr hp tk =>
    ds_one (ds_ret (de_callB c_len (by rfl) (T.free 5) bt_len (da_cons (de_get2 hr.u1 (de_fld (cs_cons ⟨He.cls_ok (T.fac 0), He.noat_ok (T.fac 3)⟩ (cs_nil)) (de_var 0)) (de_var 1) (de_lstF (da_nil)) ⟨rfl, rfl, rfl, rfl⟩) (da_nil))))
theorem sc_l_asked : FnScope ["_law_gate_here", "_law_state", "_law_names", "_law_turn", "_law_letters", "_law_floor", "_law_counts", "_law_done", "_law_late", "_law_known", "_law_rows", "_law_name", "_law_row"] ["_law_gate_here", "_law_state", "_law_names"] (defScope s_l_asked) := ⟨rfl, rfl, rfl, by decide +kernel, rfl, by decide +kernel, by decide +kernel⟩
theorem ok_l_asked (T : Tp P K mg base) : Okd P w K mg base 3 ("_law_asked", none) ["_law_gate_here", "_law_state", "_law_names"] F_l_asked :=
  okd_of (k := 2) (d := d_l_asked) (N := ["_law_gate_here", "_law_state", "_law_names", "_law_turn", "_law_letters", "_law_floor", "_law_counts", "_law_done", "_law_late", "_law_known", "_law_rows", "_law_name", "_law_row"]) rfl rfl (T.fn 24 d_l_asked rfl) sc_l_asked rfl rfl (fun _ _ _ _ _ _ us hl => match us, hl with | [_, _, _], _ => rfl) fun f cdv A outer s H E hr hp tk =>
    ds_cons (ds_asg (de_var 1) (dg_tup rfl (dgs_cons (dg_name (i := 4) sc_l_asked.nd) (dgs_cons (dg_name (i := 5) sc_l_asked.nd) (dgs_cons (dg_name (i := 6) sc_l_asked.nd) (dgs_cons (dg_name (i := 7) sc_l_asked.nd) (dgs_cons (dg_name (i := 8) sc_l_asked.nd) (dgs_nil))))))))
    (ds_cons (ds_if (PW.pt (dw_or (dt_cmp (o_ne hr.u64) (de_prop (k := 1) (tab := pt_floor) (tab_cons (propT_of (ok_Gate_floor T) (He.cls_ok (T.fac 0)) (any_ok (T.ckf 10)) rfl) (tab_nil)) hr (de_var 0)) (de_var 5)) (dw_or (dt_not (dt_tru (de_isi (by rfl) (T.free 7) (by rfl) (T.free 9) bt_bool (de_prop (k := 1) (tab := pt_finished) (tab_cons (propT_of (ok_Gate_finished T) (He.cls_ok (T.fac 0)) (any_ok (T.ckf 11)) rfl) (tab_nil)) hr (de_var 0))))) (dw_or1 (dt_cmp (o_ne hr.u64) (de_prop (k := 1) (tab := pt_finished) (tab_cons (propT_of (ok_Gate_finished T) (He.cls_ok (T.fac 0)) (any_ok (T.ckf 11)) rfl) (tab_nil)) hr (de_var 0)) (de_var 7)))))) (ds_one (ds_ret (de_bl))) (ds_nil))
    (ds_cons (ds_forR1 hp rfl (by rfl) (T.free 3) (da_cons (de_int) (da_nil)) (dg_name (i := 3) sc_l_asked.nd) (ds_cons (ds_set (i := 9) sc_l_asked.nd (de_meth0 (k := 1) (tab := mt_known_n) tk (tab_cons (methT_of (okn_Gate_known T) (He.cls_ok (T.fac 0)) (He.meth_ok (T.fac 16)) (same_ok (T.ckf 12))) (tab_nil)) hr (de_var 0)))
    (ds_cons (ds_set (i := 10) sc_l_asked.nd (de_meth0 (k := 1) (tab := mt_late_n) tk (tab_cons (methT_of (okn_Gate_late T) (He.cls_ok (T.fac 0)) (He.meth_ok (T.fac 17)) (same_ok (T.ckf 13))) (tab_nil)) hr (de_var 0)))
    (ds_cons (ds_if (PW.pt (dw_or (dt_cmp (o_ne hr.u64) (de_var 9) (de_callB (c_sortSF hr) (by rfl) (T.free 10) bt_sorted (da_cons (de_callTy (c_listKP rfl) (by rfl) (T.free 6) bt_list (da_cons (de_var 4) (da_nil))) (da_nil)))) (dw_or1 (dt_cmp (o_ne hr.u64) (de_var 10) (de_var 8))))) (ds_one (ds_ret (de_bl))) (ds_nil))
    (ds_cons (ds_expr (de_append (de_var 9) (da_cons (de_str) (da_nil))))
    (ds_cons (ds_expr (de_append (de_var 10) (da_cons (de_tup (da_cons (de_str) (da_cons (de_int) (da_cons (de_int) (da_nil))))) (da_nil))))
    (ds_one (ds_for hp rfl (de_bin o_addF (de_callTy c_listF (by rfl) (T.free 6) bt_list (da_cons (de_var 2) (da_nil))) (de_lstF (da_cons (de_str) (da_nil)))) (dg_name (i := 11) sc_l_asked.nd) (ds_cons (ds_set (i := 12) sc_l_asked.nd (de_meth (k := 1) (tab := mt_letters_of_n) tk (tab_cons (methT_of (okn_Gate_letters_of T) (He.cls_ok (T.fac 0)) (He.meth_ok (T.fac 18)) (same_ok (T.ckf 14))) (tab_nil)) hr (de_var 0) (da_cons (de_var 11) (da_nil))))
    (ds_cons (ds_if (PW.pt (dw_or (dt_cmp (o_ne hr.u64) (de_var 12) (de_get2 hr.u1 (de_var 4) (de_var 11) (de_lstF (da_nil)) ⟨rfl, rfl, rfl, rfl⟩)) (dw_or1 (dt_cmp (o_ne hr.u64) (de_meth (k := 1) (tab := mt_count_of) tk (tab_cons (methT_of (ok_Gate_count_of T) (He.cls_ok (T.fac 0)) (He.meth_ok (T.fac 19)) (same_ok (T.ckf 15))) (tab_nil)) hr (de_var 0) (da_cons (de_var 11) (da_nil))) (de_callB c_len (by rfl) (T.free 5) bt_len (da_cons (de_var 12) (da_nil))))))) (ds_one (ds_ret (de_bl))) (ds_nil))
    (ds_one (ds_expr (de_append (de_var 12) (da_cons (de_tup (da_cons (de_callB c_len (by rfl) (T.free 5) bt_len (da_cons (de_var 12) (da_nil))) (da_cons (de_int) (da_cons (de_int) (da_nil))))) (da_nil)))))))))))))))
    (ds_one (ds_ret (de_bl)))))
theorem sc_l_walked : FnScope ["_law_gate_here", "_law_deeds_here", "_law_names", "_law_method", "_law_k"] ["_law_gate_here", "_law_deeds_here", "_law_names", "_law_method"] (defScope s_l_walked) := ⟨rfl, rfl, rfl, by decide +kernel, rfl, by decide +kernel, by decide +kernel⟩
theorem ok_l_walked (T : Tp P K mg base) : Okd P w K mg base 7 ("_law_walked", none) ["_law_gate_here", "_law_deeds_here", "_law_names", "_law_method"] F_l_walked :=
  okd_of (k := 6) (d := d_l_walked) (N := ["_law_gate_here", "_law_deeds_here", "_law_names", "_law_method", "_law_k"]) rfl rfl (T.fn 25 d_l_walked rfl) sc_l_walked rfl rfl (fun _ _ _ _ _ _ us hl => match us, hl with | [_, _, _, _], _ => rfl) fun f cdv A outer s H E hr hp tk =>
    ds_cons (ds_forR1 hp rfl (by rfl) (T.free 3) (da_cons (de_callB c_len (by rfl) (T.free 5) bt_len (da_cons (de_var 1) (da_nil))) (da_nil)) (dg_name (i := 4) sc_l_walked.nd) (ds_cons (ds_if (dt_not (dt_tru (de_callG tk (ok_l_taken T) hr (T.glo 15) (da_cons (de_var 0) (da_cons (de_callG tk (ok_l_gate T) hr (T.glo 14) (da_cons (de_slF (de_var 1) (do_none) (do_some (de_var 4))) (da_nil))) (da_cons (de_ix i_ix (de_var 1) (de_var 4)) (da_cons (de_cmp (o_eq hr.u64) (de_bin o_mod (de_callTy c_int1 (by rfl) (T.free 2) bt_int (da_cons (de_bin o_addF (de_var 4) (de_var 3)) (da_nil))) (de_int)) (de_int)) (da_nil)))))))) (ds_one (ds_ret (de_bl))) (ds_nil))
    (ds_one (ds_if (dt_not (dt_tru (de_callG tk (ok_l_asked T) hr (T.glo 16) (da_cons (de_var 0) (da_cons (de_callG tk (ok_l_gate T) hr (T.glo 14) (da_cons (de_slF (de_var 1) (do_none) (do_some (de_bin o_addF (de_var 4) (de_int)))) (da_nil))) (da_cons (de_var 2) (da_nil))))))) (ds_one (ds_ret (de_bl))) (ds_nil)))))
    (ds_one (ds_ret (de_bl)))
theorem sc_l_refused : FnScope ["_law_gate_here", "_law_door", "_law_name", "_law_caught", "ended", "bad"] ["_law_gate_here", "_law_door", "_law_name"] (defScope s_l_refused) := ⟨rfl, rfl, rfl, by decide +kernel, rfl, by decide +kernel, by decide +kernel⟩
theorem ok_l_refused (T : Tp P K mg base) : Okd P w K mg base 6 ("_law_refused", none) ["_law_gate_here", "_law_door", "_law_name"] F_l_refused :=
  okd_of (k := 5) (d := d_l_refused) (N := ["_law_gate_here", "_law_door", "_law_name", "_law_caught", "ended", "bad"]) rfl rfl (T.fn 26 d_l_refused rfl) sc_l_refused rfl rfl (fun _ _ _ _ _ _ us hl => match us, hl with | [_, _, _], _ => rfl) fun f cdv A outer s H E hr hp tk =>
    ds_cons (ds_set (i := 3) sc_l_refused.nd (de_non))
    (ds_cons (ds_tryM sc_l_refused.nd tk
      (fun W tkp xe tk hp => ds_one (ds_if (dt_cmp (o_eq hr.u64) (de_var 1) (de_int)) (ds_one (ds_expr (de_meth (k := 4) (tab := mt_event) tk (tab_cons (methT_of (ok_Gate_event T) (He.cls_ok (T.fac 0)) (He.meth_ok (T.fac 12)) (same_ok (T.ckf 6))) (tab_nil)) hr (de_var 0) (da_cons (de_var 2) (da_cons (de_int) (da_cons (de_int) (da_nil))))))) (ds_one (ds_if (dt_cmp (o_eq hr.u64) (de_var 1) (de_int)) (ds_one (ds_expr (de_meth (k := 5) (tab := mt_take) tk (tab_cons (methT_of (ok_Gate_take T) (He.cls_ok (T.fac 0)) (He.meth_ok (T.fac 15)) (same_ok (T.ckf 9))) (tab_nil)) hr (de_var 0) (da_cons (de_tup (da_cons (de_str) (da_cons (de_var 2) (da_cons (de_int) (da_cons (de_int) (da_nil)))))) (da_nil))))) (ds_one (ds_if (dt_cmp (o_eq hr.u64) (de_var 1) (de_int)) (ds_one (ds_expr (de_meth (k := 3) (tab := mt_raise_floor) tk (tab_cons (methT_of (ok_Gate_raise_floor T) (He.cls_ok (T.fac 0)) (He.meth_ok (T.fac 13)) (same_ok (T.ckf 7))) (tab_nil)) hr (de_var 0) (da_cons (de_int) (da_nil))))) (ds_one (ds_if (dt_cmp (o_eq hr.u64) (de_var 1) (de_int)) (ds_one (ds_expr (de_meth (k := 5) (tab := mt_take) tk (tab_cons (methT_of (ok_Gate_take T) (He.cls_ok (T.fac 0)) (He.meth_ok (T.fac 15)) (same_ok (T.ckf 9))) (tab_nil)) hr (de_var 0) (da_cons (de_tup (da_cons (de_str) (da_cons (de_int) (da_nil)))) (da_nil))))) (ds_one (ds_if (dt_cmp (o_eq hr.u64) (de_var 1) (de_int)) (ds_one (ds_expr (de_meth (k := 5) (tab := mt_take) tk (tab_cons (methT_of (ok_Gate_take T) (He.cls_ok (T.fac 0)) (He.meth_ok (T.fac 15)) (same_ok (T.ckf 9))) (tab_nil)) hr (de_var 0) (da_cons (de_tup (da_cons (de_str) (da_cons (de_tup (da_cons (de_int) (da_cons (de_int) (da_nil)))) (da_nil)))) (da_nil))))) (ds_one (ds_if (dt_cmp (o_eq hr.u64) (de_var 1) (de_int)) (ds_one (ds_expr (de_meth0 (k := 3) (tab := mt_finish) tk (tab_cons (methT_of (ok_Gate_finish T) (He.cls_ok (T.fac 0)) (He.meth_ok (T.fac 14)) (same_ok (T.ckf 8))) (tab_nil)) hr (de_var 0)))) (ds_one (ds_expr (de_meth (k := 5) (tab := mt_take) tk (tab_cons (methT_of (ok_Gate_take T) (He.cls_ok (T.fac 0)) (He.meth_ok (T.fac 15)) (same_ok (T.ckf 9))) (tab_nil)) hr (de_var 0) (da_cons (de_tup (da_cons (de_str) (da_nil))) (da_nil)))))))))))))))))
      (.as (xc := "Finished") ⟨rfl, by decide, Or.inl (T.glo 11)⟩ (xtab_cons (He.exm_ok (T.fac 21)) (xtab_cons (He.exm_ok (T.fac 20)) (xtab_nil)))
      (fun a oe cls d pn c fs hz hf => dsx_one (dsx_set (j := 3) sc_l_refused.nd (dex_tup (dax_cons (dex_of (de_str)) (dax_cons (dex_isi (xgl_ok (T.ckf 18)) (xtb_cons ⟨xat_ok (T.ckf 16), kitO_ok (T.ckf 19)⟩ (xtb_nil)) hz hf (by rfl) (T.free 7) (pe_glob (v := .ref (He.ga K "MovedError")) (by rfl) (T.glo 18) rfl) (fun _ h => h)) (dax_cons (dex_isi (xgl_ok (T.ckf 18)) (xtb_cons ⟨xat_ok (T.ckf 16), kitT_ok (T.ckf 17)⟩ (xtb_nil)) hz hf (by rfl) (T.free 7) (pe_ty (T := "ValueError") (by rfl) (T.free 11) bt_VE) (fun _ h => h)) (dax_nil))))))) (.as (xc := "BadName") ⟨rfl, by decide, Or.inl (T.glo 12)⟩ (xtab_cons (He.exm_ok (T.fac 23)) (xtab_cons (He.exm_ok (T.fac 22)) (xtab_nil)))
      (fun a oe cls d pn c fs hz hf => dsx_one (dsx_set (j := 3) sc_l_refused.nd (dex_tup (dax_cons (dex_of (de_str)) (dax_cons (dex_fld (cs_cons ⟨xat_ok (T.ckf 5), He.noat_ok (T.fac 24)⟩ (cs_nil)) hz hf) (dax_cons (dex_isi (xgl_ok (T.ckf 18)) (xtb_cons ⟨xat_ok (T.ckf 5), kitO_ok (T.ckf 20)⟩ (xtb_nil)) hz hf (by rfl) (T.free 7) (pe_glob (v := .ref (He.ga K "MovedError")) (by rfl) (T.glo 18) rfl) (fun _ h => h)) (dax_nil))))))) (.nil))))
    (ds_one (ds_ret (de_var 3))))
theorem sc_l_no_name : FnScope ["_law_gate_here", "_law_deeds_here", "_law_names", "_law_strange", "_law_door"] ["_law_gate_here", "_law_deeds_here", "_law_names", "_law_strange"] (defScope s_l_no_name) := ⟨rfl, rfl, rfl, by decide +kernel, rfl, by decide +kernel, by decide +kernel⟩
theorem ok_l_no_name (T : Tp P K mg base) : Okd P w K mg base 7 ("_law_no_name", none) ["_law_gate_here", "_law_deeds_here", "_law_names", "_law_strange"] F_l_no_name :=
  okd_of (k := 6) (d := d_l_no_name) (N := ["_law_gate_here", "_law_deeds_here", "_law_names", "_law_strange", "_law_door"]) rfl rfl (T.fn 27 d_l_no_name rfl) sc_l_no_name rfl rfl (fun _ _ _ _ _ _ us hl => match us, hl with | [_, _, _, _], _ => rfl) fun f cdv A outer s H E hr hp tk =>
    ds_cons (ds_if (dt_cmp o_notB (de_meth (k := 2) (tab := mt_lets_in) tk (tab_cons (methT_of (ok_Gate_lets_in T) (He.cls_ok (T.fac 0)) (He.meth_ok (T.fac 9)) (same_ok (T.ckf 1))) (tab_nil)) hr (de_var 0) (da_cons (de_var 3) (da_cons (de_int) (da_nil)))) (de_bl)) (ds_one (ds_ret (de_bl))) (ds_nil))
    (ds_cons (ds_forR1 hp rfl (by rfl) (T.free 3) (da_cons (de_int) (da_nil)) (dg_name (i := 4) sc_l_no_name.nd) (ds_one (ds_if (dt_cmp (o_ne hr.u64) (de_callG tk (ok_l_refused T) hr (T.glo 19) (da_cons (de_var 0) (da_cons (de_var 4) (da_cons (de_var 3) (da_nil))))) (de_tup (da_cons (de_str) (da_cons (de_var 3) (da_cons (de_bl) (da_nil)))))) (ds_one (ds_ret (de_bl))) (ds_nil))))
    (ds_one (ds_ret (de_callG tk (ok_l_asked T) hr (T.glo 16) (da_cons (de_var 0) (da_cons (de_callG tk (ok_l_gate T) hr (T.glo 14) (da_cons (de_var 1) (da_nil))) (da_cons (de_var 2) (da_nil))))))))
theorem sc_Gate_twin : FnScope ["self", "other", "key"] ["self"] (defScope s_Gate_twin) := ⟨rfl, rfl, rfl, by decide +kernel, rfl, by decide +kernel, by decide +kernel⟩
theorem okn_Gate_twin (T : Tp P K mg base) : Okd P w K mg base 3 ("Gate", some "twin") ["self"] F_Gate_twin_n :=
  okd_of (k := 2) (d := d_Gate_twin) (N := ["self", "other", "key"]) rfl rfl (T.fn 28 d_Gate_twin rfl) sc_Gate_twin rfl rfl (fun _ _ _ _ _ _ us hl => match us, hl with | [_], _ => rfl) fun f cdv A outer s H E hr hp tk =>
    ds_cons (ds_set (i := 1) sc_Gate_twin.nd (de_newC0 (k := 1) tk (newT_of (ok_Gate_init T) (He.mkr_ok (T.fac 6)) rfl) hr (T.glo 8)))
    (ds_cons (ds_setA (cs_cons ⟨He.cls_ok (T.fac 0), He.noat_ok (T.fac 1)⟩ (cs_nil)) (de_fld (cs_cons ⟨He.cls_ok (T.fac 0), He.noat_ok (T.fac 1)⟩ (cs_nil)) (de_var 0)) (de_var 1))
    (ds_cons (ds_setA (cs_cons ⟨He.cls_ok (T.fac 0), He.noat_ok (T.fac 2)⟩ (cs_nil)) (de_fld (cs_cons ⟨He.cls_ok (T.fac 0), He.noat_ok (T.fac 2)⟩ (cs_nil)) (de_var 0)) (de_var 1))
    (ds_cons (ds_setA (cs_cons ⟨He.cls_ok (T.fac 0), He.noat_ok (T.fac 3)⟩ (cs_nil)) (de_dcK rfl sc_Gate_twin.nd (de_fld (cs_cons ⟨He.cls_ok (T.fac 0), He.noat_ok (T.fac 3)⟩ (cs_nil)) (de_var 0)) (fun _ _ _ h => fpA_ok h) (blkOk_by (N := ["self", "other", "key"]) (sc := defScope s_Gate_twin) (by decide +kernel)) (fun _ _ _ _ _ => pg_name (i := 2) sc_Gate_twin.nd rfl (Or.inl rfl)) (fun _ _ _ _ _ => de_var 2) (fun _ _ _ _ _ => de_callTy c_listF (by rfl) (T.free 6) bt_list (da_cons (de_ixK hr.u1 (de_fld (cs_cons ⟨He.cls_ok (T.fac 0), He.noat_ok (T.fac 3)⟩ (cs_nil)) (de_var 0)) (de_var 2)) (da_nil)))) (de_var 1))
    (ds_cons (ds_setA (cs_cons ⟨He.cls_ok (T.fac 0), He.noat_ok (T.fac 4)⟩ (cs_nil)) (de_dcK rfl sc_Gate_twin.nd (de_fld (cs_cons ⟨He.cls_ok (T.fac 0), He.noat_ok (T.fac 4)⟩ (cs_nil)) (de_var 0)) (fun _ _ _ h => fpA_ok h) (blkOk_by (N := ["self", "other", "key"]) (sc := defScope s_Gate_twin) (by decide +kernel)) (fun _ _ _ _ _ => pg_name (i := 2) sc_Gate_twin.nd rfl (Or.inl rfl)) (fun _ _ _ _ _ => de_var 2) (fun _ _ _ _ _ => de_ixK hr.u1 (de_fld (cs_cons ⟨He.cls_ok (T.fac 0), He.noat_ok (T.fac 4)⟩ (cs_nil)) (de_var 0)) (de_var 2))) (de_var 1))
    (ds_cons (ds_setA (cs_cons ⟨He.cls_ok (T.fac 0), He.noat_ok (T.fac 5)⟩ (cs_nil)) (de_callTy c_list (by rfl) (T.free 6) bt_list (da_cons (de_fld (cs_cons ⟨He.cls_ok (T.fac 0), He.noat_ok (T.fac 5)⟩ (cs_nil)) (de_var 0)) (da_nil))) (de_var 1))
    (ds_one (ds_ret (de_var 1))))))))
theorem sc_l_twinned : FnScope ["_law_deeds_here", "_law_names", "_law_moment", "_law_first", "_law_deed", "_law_copy", "_law_event"] ["_law_deeds_here", "_law_names", "_law_moment"] (defScope s_l_twinned) := ⟨rfl, rfl, rfl, by decide +kernel, rfl, by decide +kernel, by decide +kernel⟩
theorem ok_l_twinned (T : Tp P K mg base) : Okd P w K mg base 6 ("_law_twinned", none) ["_law_deeds_here", "_law_names", "_law_moment"] F_l_twinned :=
  okd_of (k := 5) (d := d_l_twinned) (N := ["_law_deeds_here", "_law_names", "_law_moment", "_law_first", "_law_deed", "_law_copy", "_law_event"]) rfl rfl (T.fn 29 d_l_twinned rfl) sc_l_twinned rfl rfl (fun _ _ _ _ _ _ us hl => match us, hl with | [_, _, _], _ => rfl) fun f cdv A outer s H E hr hp tk =>
    ds_cons (ds_set (i := 3) sc_l_twinned.nd (de_newC0 (k := 1) tk (newT_of (ok_Gate_init T) (He.mkr_ok (T.fac 6)) rfl) hr (T.glo 8)))
    (ds_cons (ds_for hp rfl (de_slF (de_var 0) (do_none) (do_some (de_var 2))) (dg_name (i := 4) sc_l_twinned.nd) (ds_one (ds_expr (de_meth (k := 5) (tab := mt_take) tk (tab_cons (methT_of (ok_Gate_take T) (He.cls_ok (T.fac 0)) (He.meth_ok (T.fac 15)) (same_ok (T.ckf 9))) (tab_nil)) hr (de_var 3) (da_cons (de_var 4) (da_nil))))))
    (ds_cons (ds_set (i := 5) sc_l_twinned.nd (de_meth0 (k := 3) (tab := mt_twin_n) tk (tab_cons (methT_of (okn_Gate_twin T) (He.cls_ok (T.fac 0)) (He.meth_ok (T.fac 25)) (same_ok (T.ckf 21))) (tab_nil)) hr (de_var 3)))
    (ds_cons (ds_for hp rfl (de_slF (de_var 0) (do_some (de_var 2)) (do_none)) (dg_name (i := 4) sc_l_twinned.nd) (ds_one (ds_expr (de_meth (k := 5) (tab := mt_take) tk (tab_cons (methT_of (ok_Gate_take T) (He.cls_ok (T.fac 0)) (He.meth_ok (T.fac 15)) (same_ok (T.ckf 9))) (tab_nil)) hr (de_var 3) (da_cons (de_var 4) (da_nil))))))
    (ds_cons (ds_if (dt_not (dt_tru (de_callG tk (ok_l_asked T) hr (T.glo 16) (da_cons (de_var 5) (da_cons (de_callG tk (ok_l_gate T) hr (T.glo 14) (da_cons (de_slF (de_var 0) (do_none) (do_some (de_var 2))) (da_nil))) (da_cons (de_var 1) (da_nil))))))) (ds_one (ds_ret (de_bl))) (ds_nil))
    (ds_cons (ds_set (i := 6) sc_l_twinned.nd (de_tup (da_cons (de_str) (da_cons (de_ix i_ix (de_var 1) (de_int)) (da_cons (de_int) (da_cons (de_int) (da_nil)))))))
    (ds_cons (ds_expr (de_meth (k := 5) (tab := mt_take) tk (tab_cons (methT_of (ok_Gate_take T) (He.cls_ok (T.fac 0)) (He.meth_ok (T.fac 15)) (same_ok (T.ckf 9))) (tab_nil)) hr (de_var 5) (da_cons (de_var 6) (da_nil))))
    (ds_cons (ds_expr (de_meth (k := 5) (tab := mt_take) tk (tab_cons (methT_of (ok_Gate_take T) (He.cls_ok (T.fac 0)) (He.meth_ok (T.fac 15)) (same_ok (T.ckf 9))) (tab_nil)) hr (de_var 5) (da_cons (de_tup (da_cons (de_str) (da_cons (de_int) (da_nil)))) (da_nil))))
    (ds_cons (ds_if (dt_not (dt_tru (de_callG tk (ok_l_asked T) hr (T.glo 16) (da_cons (de_var 5) (da_cons (de_callG tk (ok_l_gate T) hr (T.glo 14) (da_cons (de_bin o_addF (de_slF (de_var 0) (do_none) (do_some (de_var 2))) (de_lstF (da_cons (de_var 6) (da_cons (de_tup (da_cons (de_str) (da_cons (de_int) (da_nil)))) (da_nil))))) (da_nil))) (da_cons (de_var 1) (da_nil))))))) (ds_one (ds_ret (de_bl))) (ds_nil))
    (ds_one (ds_ret (de_callG tk (ok_l_asked T) hr (T.glo 16) (da_cons (de_var 3) (da_cons (de_callG tk (ok_l_gate T) hr (T.glo 14) (da_cons (de_var 0) (da_nil))) (da_cons (de_var 1) (da_nil)))))))))))))))
theorem sc_Gate_mark_of : FnScope ["self", "key"] ["self", "key"] (defScope s_Gate_mark_of) := ⟨rfl, rfl, rfl, by decide +kernel, rfl, by decide +kernel, by decide +kernel⟩
theorem ok_Gate_mark_of (T : Tp P K mg base) : Okd P w K mg base 2 ("Gate", some "mark_of") ["self", "key"] F_Gate_mark_of :=
  okd_of (k := 1) (d := d_Gate_mark_of) (N := ["self", "key"]) rfl rfl (T.fn 30 d_Gate_mark_of rfl) sc_Gate_mark_of rfl rfl (fun _ _ _ _ _ _ us hl => match us, hl with | [_, _], _ => rfl) fun f cdv A outer s H E hr hp tk =>
    ds_cons (ds_if (dt_tru (de_fld (cs_cons ⟨He.cls_ok (T.fac 0), He.noat_ok (T.fac 2)⟩ (cs_nil)) (de_var 0))) (ds_one (ds_ret (de_tup (da_cons (de_meth (k := 1) (tab := mt_count_of) tk (tab_cons (methT_of (ok_Gate_count_of T) (He.cls_ok (T.fac 0)) (He.meth_ok (T.fac 19)) (same_ok (T.ckf 15))) (tab_nil)) hr (de_var 0) (da_cons (de_var 1) (da_nil))) (da_cons (de_non) (da_nil)))))) (ds_nil))
    (ds_cons (ds_if (dt_cmp o_isN (de_fld (cs_cons ⟨He.cls_ok (T.fac 0), He.noat_ok (T.fac 1)⟩ (cs_nil)) (de_var 0)) (de_non)) (ds_one (ds_ret (de_non))) (ds_nil))
    (ds_one (ds_ret (de_tup (da_cons (de_get2 hr.u1 (de_fld (cs_cons ⟨He.cls_ok (T.fac 0), He.noat_ok (T.fac 4)⟩ (cs_nil)) (de_var 0)) (de_var 1) (de_int) ⟨rfl, rfl, rfl, rfl⟩) (da_cons (de_fld (cs_cons ⟨He.cls_ok (T.fac 0), He.noat_ok (T.fac 1)⟩ (cs_nil)) (de_var 0)) (da_nil)))))))
theorem sc_l_ended : FnScope ["_law_gate_here", "_law_deeds_here", "_law_names", "_law_name", "_law_state", "_law_door"] ["_law_gate_here", "_law_deeds_here", "_law_names", "_law_name"] (defScope s_l_ended) := ⟨rfl, rfl, rfl, by decide +kernel, rfl, by decide +kernel, by decide +kernel⟩
theorem ok_l_ended (T : Tp P K mg base) : Okd P w K mg base 7 ("_law_ended", none) ["_law_gate_here", "_law_deeds_here", "_law_names", "_law_name"] F_l_ended :=
  okd_of (k := 6) (d := d_l_ended) (N := ["_law_gate_here", "_law_deeds_here", "_law_names", "_law_name", "_law_state", "_law_door"]) rfl rfl (T.fn 31 d_l_ended rfl) sc_l_ended rfl rfl (fun _ _ _ _ _ _ us hl => match us, hl with | [_, _, _, _], _ => rfl) fun f cdv A outer s H E hr hp tk =>
    ds_cons (ds_set (i := 4) sc_l_ended.nd (de_callG tk (ok_l_gate T) hr (T.glo 14) (da_cons (de_bin o_addF (de_var 1) (de_lstF (da_cons (de_tup (da_cons (de_str) (da_nil))) (da_nil)))) (da_nil))))
    (ds_cons (ds_forR1 hp rfl (by rfl) (T.free 3) (da_cons (de_int) (da_nil)) (dg_name (i := 5) sc_l_ended.nd) (ds_cons (ds_if (dt_cmp (o_ne hr.u64) (de_callG tk (ok_l_refused T) hr (T.glo 19) (da_cons (de_var 0) (da_cons (de_var 5) (da_cons (de_var 3) (da_nil))))) (de_tup (da_cons (de_str) (da_cons (de_bl) (da_cons (de_bl) (da_nil)))))) (ds_one (ds_ret (de_bl))) (ds_nil))
    (ds_one (ds_if (dt_cmp (o_ne hr.u64) (de_callG tk (ok_l_refused T) hr (T.glo 19) (da_cons (de_var 0) (da_cons (de_var 5) (da_cons (de_ix i_ix (de_var 2) (de_int)) (da_nil))))) (de_tup (da_cons (de_str) (da_cons (de_bl) (da_cons (de_bl) (da_nil)))))) (ds_one (ds_ret (de_bl))) (ds_nil)))))
    (ds_cons (ds_if (dt_cmp o_notB (de_meth (k := 2) (tab := mt_lets_in) tk (tab_cons (methT_of (ok_Gate_lets_in T) (He.cls_ok (T.fac 0)) (He.meth_ok (T.fac 9)) (same_ok (T.ckf 1))) (tab_nil)) hr (de_var 0) (da_cons (de_ix i_ix (de_var 2) (de_int)) (da_cons (de_int) (da_nil)))) (de_bl)) (ds_one (ds_ret (de_bl))) (ds_nil))
    (ds_cons (ds_if (dt_cmp (o_ne hr.u64) (de_meth (k := 2) (tab := mt_mark_of) tk (tab_cons (methT_of (ok_Gate_mark_of T) (He.cls_ok (T.fac 0)) (He.meth_ok (T.fac 26)) (same_ok (T.ckf 22))) (tab_nil)) hr (de_var 0) (da_cons (de_ix i_ix (de_var 2) (de_int)) (da_nil))) (de_tup (da_cons (de_callB c_len (by rfl) (T.free 5) bt_len (da_cons (de_get2 hr.u1 (de_ix i_ix (de_var 4) (de_int)) (de_ix i_ix (de_var 2) (de_int)) (de_lstF (da_nil)) ⟨rfl, rfl, rfl, rfl⟩) (da_nil))) (da_cons (de_non) (da_nil))))) (ds_one (ds_ret (de_bl))) (ds_nil))
    (ds_one (ds_ret (de_callG tk (ok_l_asked T) hr (T.glo 16) (da_cons (de_var 0) (da_cons (de_var 4) (da_cons (de_var 2) (da_nil))))))))))
theorem sc_law : FnScope ["_law_script", "_law_stream_here", "_law_moment", "_law_method", "_law_strange", "_law_finish", "_law_gate_here", "_law_names", "_law_deeds_here"] ["_law_script"] (defScope s_law) := ⟨rfl, rfl, rfl, by decide +kernel, rfl, by decide +kernel, by decide +kernel⟩
theorem fn_law (T : Tp P K mg base) {fd : FuncData} (F : FunD K d_law.name d_law.qual d_law.params d_law.body d_law.scope [] [] (He.fAd K d_law.at_) fd) : FnOk P w K mg base (L2.CX P w) 8 (He.fAd K d_law.at_) fd ["_law_script"] (spF K F_law) :=
  fn_D (k := 7) (N := ["_law_script", "_law_stream_here", "_law_moment", "_law_method", "_law_strange", "_law_finish", "_law_gate_here", "_law_names", "_law_deeds_here"]) F sc_law rfl rfl fun cdv A outer s H E hr hp tk =>
    ds_cons (ds_set (i := 1) sc_law.nd (de_callG tk (ok_l_stream T) hr (T.glo 0) (da_cons (de_var 0) (da_nil))))
    (ds_cons (ds_asg (de_callG tk (ok_l_world T) hr (T.glo 7) (da_cons (de_var 1) (da_nil))) (dg_tup rfl (dgs_cons (dg_name (i := 7) sc_law.nd) (dgs_cons (dg_name (i := 8) sc_law.nd) (dgs_nil)))))
    (ds_cons (ds_set (i := 2) sc_law.nd (de_bin o_mod (de_callTy c_int1 (by rfl) (T.free 2) bt_int (da_cons (de_callG tk (ok_l_draw T) hr (T.glo 1) (da_cons (de_var 1) (da_cons (de_int) (da_nil)))) (da_nil))) (de_bin o_addF (de_callB c_len (by rfl) (T.free 5) bt_len (da_cons (de_var 8) (da_nil))) (de_int))))
    (ds_cons (ds_set (i := 3) sc_law.nd (de_callG tk (ok_l_draw T) hr (T.glo 1) (da_cons (de_var 1) (da_cons (de_int) (da_nil)))))
    (ds_cons (ds_set (i := 4) sc_law.nd (de_ix i_ix (de_tup (da_cons (de_str) (da_cons (de_str) (da_cons (de_str) (da_cons (de_str) (da_cons (de_str) (da_cons (de_str) (da_cons (de_str) (da_cons (de_str) (da_cons (de_str) (da_cons (de_non) (da_cons (de_int) (da_nil))))))))))))) (de_callG tk (ok_l_draw T) hr (T.glo 1) (da_cons (de_var 1) (da_cons (de_int) (da_nil))))))
    (ds_cons (ds_set (i := 5) sc_law.nd (de_callG tk (ok_l_draw T) hr (T.glo 1) (da_cons (de_var 1) (da_cons (de_int) (da_nil)))))
    (ds_cons (ds_set (i := 6) sc_law.nd (de_newC0 (k := 1) tk (newT_of (ok_Gate_init T) (He.mkr_ok (T.fac 6)) rfl) hr (T.glo 8)))
    (ds_cons (ds_if (PW.pt (dw_or (dt_not (dt_tru (de_callG tk (ok_l_walked T) hr (T.glo 17) (da_cons (de_var 6) (da_cons (de_var 8) (da_cons (de_var 7) (da_cons (de_var 3) (da_nil)))))))) (dw_or1 (dt_not (dt_tru (de_callG tk (ok_l_no_name T) hr (T.glo 20) (da_cons (de_var 6) (da_cons (de_var 8) (da_cons (de_var 7) (da_cons (de_var 4) (da_nil))))))))))) (ds_one (ds_ret (de_bl))) (ds_nil))
    (ds_cons (ds_if (dt_not (dt_tru (de_callG tk (ok_l_twinned T) hr (T.glo 21) (da_cons (de_var 8) (da_cons (de_var 7) (da_cons (de_var 2) (da_nil))))))) (ds_one (ds_ret (de_bl))) (ds_nil))
    (ds_cons (ds_if (PW.pt (dw_and (dt_cmp (o_eq hr.u64) (de_var 5) (de_int)) (dw_and1 (dt_cmp o_notN (de_meth0 (k := 3) (tab := mt_finish) tk (tab_cons (methT_of (ok_Gate_finish T) (He.cls_ok (T.fac 0)) (He.meth_ok (T.fac 14)) (same_ok (T.ckf 8))) (tab_nil)) hr (de_var 6)) (de_non))))) (ds_one (ds_ret (de_bl))) (ds_nil))
    (ds_cons (ds_if (PW.pt (dw_and (dt_cmp (o_eq hr.u64) (de_var 5) (de_int)) (dw_and1 (dt_cmp o_notN (de_meth (k := 5) (tab := mt_take) tk (tab_cons (methT_of (ok_Gate_take T) (He.cls_ok (T.fac 0)) (He.meth_ok (T.fac 15)) (same_ok (T.ckf 9))) (tab_nil)) hr (de_var 6) (da_cons (de_tup (da_cons (de_str) (da_nil))) (da_nil))) (de_non))))) (ds_one (ds_ret (de_bl))) (ds_nil))
    (ds_one (ds_ret (de_or (de_cmp (o_eq hr.u64) (de_var 5) (de_int)) (de_one (de_callG tk (ok_l_ended T) hr (T.glo 22) (da_cons (de_var 6) (da_cons (de_var 8) (da_cons (de_var 7) (da_cons (de_var 4) (da_nil))))))))))))))))))))
end
end G
end
section
set_option Elab.async false
set_option linter.all false
set_option maxRecDepth 100000
set_option maxHeartbeats 0
namespace G
open PySem PySem.Spec L2 M PySem.W PySem.Calls PyProof.Rows
abbrev Rw : PySem.W.OpenRow := PySem.W.OpenLaw.row PySem.Challenge.rw_movedstates_k05_what_the_gate_lets_in
abbrev hk : PySem.W.Hook := hookR 0 want
def ob (s : PySem.W.SharedT) : AlM := obsR 0 want (HandSHeadRun.getT s) s.n
theorem ob_eq (s : PySem.W.SharedT) : ob s = hk.obs s.abs := obsR_eq (HandSHeadRun.getT_eq s) (PySem.W.absHeap_size _ _ _).symm
def loose : List Str := ["MovedError", "BadName", "Finished", "LETTERS", "LONGEST_NAME", "is_name", "check_name", "Gate", "_law_stream", "_law_draw", "_law_wide", "_law_value", "_law_span", "_law_step", "_law_deeds", "_law_gate", "_law_lets", "_law_taken", "_law_asked", "_law_refused", "_law_ended", "_law_world", "_law_walked", "_law_twinned", "_law_no_name"]
theorem hrunA (w : World) (os : OsState) : (HandSHeadRun.endF (HandSHeadRun.stepQ (HandSHeadRun.denQ HandSHeadRun.tabQ) Rw.prog w) 16000 Rw.prog w os).map (fun s => HandSHeadRun.looksF Rw.prog (PySem.W.boot_heap w.params) s.abs) = some (true) := by
  kernel_rfl
theorem hrunB (w : World) (os : OsState) : (HandSHeadRun.endF (HandSHeadRun.stepQ (HandSHeadRun.denQ HandSHeadRun.tabQ) Rw.prog w) 16000 Rw.prog w os).map (fun s => HandSHeadRun.seenQ (PySem.W.view Rw.prog [29]) loose (importedModules Rw.prog.main.body) (fun s => xlAt (PySem.W.view Rw.prog [29]) [] s && recOk Rw.toRowW.records s) s.abs) = some (openGood (PySem.W.view Rw.prog [29]) loose) := by
  kernel_rfl
theorem hrun1 (w : World) (os : OsState) : (HandSHeadRun.endF (HandSHeadRun.stepQ (HandSHeadRun.denQ HandSHeadRun.tabQ) Rw.prog w) 16000 Rw.prog w os).map (fun s => want.fa.all fun f => f.ok (frR (HandSHeadRun.getT s) (asR 0 s.n))) = some (true) := by
  kernel_rfl
theorem hrun2 (w : World) (os : OsState) : (HandSHeadRun.endF (HandSHeadRun.stepQ (HandSHeadRun.denQ HandSHeadRun.tabQ) Rw.prog w) 16000 Rw.prog w os).map (fun s => want.fn.all fun d => d.ok (frR (HandSHeadRun.getT s) (asR 0 s.n))) = some (true) := by
  kernel_rfl
theorem hrun3 (w : World) (os : OsState) : (HandSHeadRun.endF (HandSHeadRun.stepQ (HandSHeadRun.denQ HandSHeadRun.tabQ) Rw.prog w) 16000 Rw.prog w os).map (fun s => want.fn.map fun d => He.fnW (frR (HandSHeadRun.getT s) (asR 0 s.n)) d.at_) = some (want.fn.map He.DefD.val) := by
  kernel_rfl
theorem hrun4 (w : World) (os : OsState) : (HandSHeadRun.endF (HandSHeadRun.stepQ (HandSHeadRun.denQ HandSHeadRun.tabQ) Rw.prog w) 16000 Rw.prog w os).map (fun s => want.ck.all fun c => c.ok (frR (HandSHeadRun.getT s) (asR 0 s.n))) = some (true) := by
  kernel_rfl
theorem hrun5 (w : World) (os : OsState) : (HandSHeadRun.endF (HandSHeadRun.stepQ (HandSHeadRun.denQ HandSHeadRun.tabQ) Rw.prog w) 16000 Rw.prog w os).map (fun s => (want.cf.all (fun d => d.ok (frR (HandSHeadRun.getT s) (asR 0 s.n)) want.file), tabsB (frR (HandSHeadRun.getT s) (asR 0 s.n)) (HandSHeadRun.getT s), (want.cf.map fun d => fnC (frR (HandSHeadRun.getT s) (asR 0 s.n)) d.at_), want.gf.all (fun d => d.ok (frR (HandSHeadRun.getT s) (asR 0 s.n))), want.gf.map fun d => fnG (frR (HandSHeadRun.getT s) (asR 0 s.n)) (d.adr (frR (HandSHeadRun.getT s) (asR 0 s.n))))) = some ((true, true, want.cf.map DefC.val, true, want.gf.map DefG.val)) := by
  kernel_rfl
theorem hrunO (w : World) (os : OsState) : (HandSHeadRun.endF (HandSHeadRun.stepQ (HandSHeadRun.denQ HandSHeadRun.tabQ) Rw.prog w) 16000 Rw.prog w os).map ob = some (hk.val w) := obs_parts (hrun1 w os) (hrun2 w os) (hrun3 w os) (hrun4 w os) (hrun5 w os)
theorem run (w : World) : HandSHeadRun.RunEq Rw (PySem.W.view Rw.prog [29]) hk ob 16000 loose w := by
  intro os
  exact map3b (hrunA w os) (hrunB w os) (hrunO w os)
end G
end
section
set_option Elab.async false
set_option linter.all false
set_option maxRecDepth 100000
set_option maxHeartbeats 0
namespace G
open PySem PySem.Spec L2 M
theorem tp_of {P : Program} {K : PySem.W.Frag} {h : Heap} {mg : Str → Option Value} {base : Heap} (G : h.Ns mainGlobals mg) (c : SaysM want K h) (tb : ∀ t ∈ tabsAll K, LamX.TabB base mg t.1 t.2.1) (hP : P = PySem.Challenge.pw_movedstates_k05_what_the_gate_lets_in) : Tp P K mg base := by
  subst hP
  refine ⟨⟨h, c⟩, fun i x e => ?_, fun i x e => ?_, tb, by decide +kernel, ⟨h, c.kin, G⟩, by decide +kernel⟩
  · have hm : He.Fa.free x ∈ fas := List.mem_append_right _ (List.mem_append_left _ (List.mem_map.mpr ⟨x, List.mem_of_getElem? e, rfl⟩))
    obtain ⟨j, hj⟩ := List.getElem?_of_mem hm
    exact He.free_ok c.kin G (c.d.fact j hj)
  · have hm : He.Fa.glo x ∈ fas := List.mem_append_right _ (List.mem_append_right _ (List.mem_map.mpr ⟨x, List.mem_of_getElem? e, rfl⟩))
    obtain ⟨j, hj⟩ := List.getElem?_of_mem hm
    exact He.glo_ok c.kin G (c.d.fact j hj)
def Pure : Prop := ∀ (ns : List Int), ns.length ≤ 63 → (∀ z ∈ ns, Builtin.Int.intBits z ≤ 1048576) → ∃ st, F_law [.fz (.rol (ns.map P.int))] [] = .ok (.fz (.bl true), st)
end G
open PySem PySem.W PySem.Calls PyProof.Rows
theorem holds_of (hp : G.Pure) : PySem.Challenge.rw_movedstates_k05_what_the_gate_lets_in.Holds := by
  w_on; o_law
  refine HandSHeadRun.head_any (r := OpenLaw.row PySem.Challenge.rw_movedstates_k05_what_the_gate_lets_in) (q := view (OpenLaw.row PySem.Challenge.rw_movedstates_k05_what_the_gate_lets_in).prog [29]) (H := G.hk) (ob := G.ob) (M := 16000) (loose := G.loose) (d := HandSHeadRun.topDef (OpenLaw.row PySem.Challenge.rw_movedstates_k05_what_the_gate_lets_in).prog 29) (kwd := []) G.ob_eq
    (by kernel_rfl) (fun s => by kernel_rfl) G.run (by kernel_rfl) (by kernel_rfl) (by kernel_rfl) (by rfl) (by first | assumption | decide +kernel) (by decide +kernel) ⟨rfl, rfl, rfl, rfl, rfl, by decide +kernel⟩ ?hw ?hc
  case hw => w_witness2
  case hc =>
    refine M.walk_ofM (l := PySem.Challenge.rw_movedstates_k05_what_the_gate_lets_in) (n := 63) (k := 8) (x := "_law_script") rfl (by decide) (by kernel_rfl) ⟨rfl, by decide, by decide⟩ ?F
    intro w mg fa h Y Gn hmg0
    obtain ⟨K, c⟩ := Y
    have hmg : mg ("law" : PySem.Str) = some (.ref fa) := by
      have e : (HandSHeadRun.topDef (OpenLaw.row PySem.Challenge.rw_movedstates_k05_what_the_gate_lets_in).prog 29).name = ("law" : PySem.Str) := by kernel_rfl
      rw [← e]
      exact hmg0
    obtain ⟨fd, F⟩ := c.d.def_ 32 (d := G.d_law) rfl
    have hl : He.Fa.glo "law" ∈ G.fas := by simp [G.fas, G.glos]
    obtain ⟨j, hj⟩ := List.getElem?_of_mem hl
    have e := hmg.symm.trans (He.glo_ok c.kin Gn (c.d.fact j hj))
    cases e
    have F' : L2.FunD K G.d_law.name G.d_law.qual G.d_law.params G.d_law.body G.d_law.scope [] [] (He.fAd K G.d_law.at_) fd := F
    have b := L2.FunD.bindsA (ps := ["_law_script"]) F' fun _ _ _ _ _ _ us hl => match us, hl with | [_], _ => rfl
    exact ⟨K, fd, G.F_law, c.kin, c.th, fun s v => b s [v] rfl, fun ns h1 h2 => hp ns h1 h2, fun base hK hN hT => G.fn_law (G.tp_of Gn c hT rfl) F'⟩
end
section
set_option Elab.async false
set_option linter.all false
set_option maxRecDepth 100000
set_option maxHeartbeats 0
namespace M
open PySem L2
@[simp] theorem bind_ok {α β : Type} (a : α) (k : α → R β) : (R.ok a).bind k = k a := rfl
@[simp] theorem bind_stuck {α β : Type} (k : α → R β) : (R.stuck : R α).bind k = .stuck := rfl
@[simp] theorem bind_exc {α β : Type} (c : Str) (fs : Option (List (Str × P))) (η : Et) (st : Sr) (k : α → R β) : (R.exc c fs η st : R α).bind k = .exc c fs η st := rfl
@[simp] theorem eqP_int (i j : Int) : eqP (.int i) (.int j) = decide (i = j) := by
  unfold eqP toPy
  first | rfl | (simp [PyData.eqv]; done) | (by_cases h : i = j <;> simp [PyData.eqv, h])
theorem toPys_map (xs : List Int) : toPys (xs.map P.int) = xs.map PyData.int := by
  induction xs with
  | nil => rfl
  | cons x r ih => rw [List.map_cons, List.map_cons]; unfold toPys; rw [ih]; rfl
theorem eqvAll_ints : ∀ (xs ys : List Int), PyData.eqvAll (xs.map PyData.int) (ys.map PyData.int) = decide (xs = ys)
  | [], [] => rfl
  | [], _ :: _ => by simp [PyData.eqvAll]
  | _ :: _, [] => by simp [PyData.eqvAll]
  | x :: xs, y :: ys => by
    rw [List.map_cons, List.map_cons]
    show (PyData.eqv (.int x) (.int y) && PyData.eqvAll (xs.map PyData.int) (ys.map PyData.int)) = _
    rw [eqvAll_ints xs ys]
    by_cases h : x = y <;> by_cases h2 : xs = ys <;> simp [PyData.eqv, h, h2]
@[simp] theorem eqP_tup (xs ys : List Int) : eqP (.tup (xs.map P.int)) (.tup (ys.map P.int)) = decide (xs = ys) := by
  show PyData.eqvAll (toPys (xs.map P.int)) (toPys (ys.map P.int)) = _
  rw [toPys_map, toPys_map, eqvAll_ints]
@[simp] theorem eqP_lst (xs ys : List Int) : eqP (.lst (xs.map P.int)) (.lst (ys.map P.int)) = decide (xs = ys) := by
  show PyData.eqvAll (toPys (xs.map P.int)) (toPys (ys.map P.int)) = _
  rw [toPys_map, toPys_map, eqvAll_ints]
theorem canLay_ints : ∀ xs : List Int, PyData.canLayAll0 (xs.map PyData.int) = true
  | [] => rfl
  | x :: r => by rw [List.map_cons]; show (PyData.canLay0 (.int x) && PyData.canLayAll0 (r.map PyData.int)) = true; rw [canLay_ints r]; rfl
theorem depth_ints0 : ∀ xs : List Int, PyData.depthAll (xs.map PyData.int) = 0
  | [] => rfl
  | x :: r => by rw [List.map_cons]; show max (PyData.depth (.int x)) (PyData.depthAll (r.map PyData.int)) = 0; rw [depth_ints0 r]; rfl
@[simp] theorem shP_int (i : Int) : shP (.int i) = true := rfl
@[simp] theorem shP_tup (xs : List Int) : shP (.tup (xs.map P.int)) = true := by
  show (PyData.canLayAll0 (toPys (xs.map P.int)) && decide (PyData.depthAll (toPys (xs.map P.int)) + 1 ≤ 64)) = true
  rw [toPys_map, canLay_ints, depth_ints0]; rfl
@[simp] theorem shP_lst (xs : List Int) : shP (.lst (xs.map P.int)) = true := by
  show (PyData.canLayAll0 (toPys (xs.map P.int)) && decide (PyData.depthAll (toPys (xs.map P.int)) + 1 ≤ 64)) = true
  rw [toPys_map, canLay_ints, depth_ints0]; rfl
/-- a cell that names no other -/
def plainC : Ct → Bool
  | .obj _ _ => false
  | .lsD _ => false
  | .tuD _ => false
  | _ => true
theorem plainC_cells {c : Ct} (h : plainC c = true) : cellsC c = [] := by cases c <;> first | rfl | cases h
theorem plainC_ren {c : Ct} {ids : List Nat} (h : plainC c = true) : renC ids c = some c := by cases c <;> first | rfl | cases h
theorem plainC_bk {c : Ct} {ids : List Nat} {n : Nat} (h : plainC c = true) : bkC ids n c = c := by cases c <;> first | rfl | cases h
theorem cellsA_fz : ∀ ps : List P, cellsA (ps.map D.fz) = []
  | [] => rfl
  | p :: r => by rw [List.map_cons]; show [] ++ cellsA (r.map D.fz) = []; rw [cellsA_fz r]; rfl
theorem renA_fz {ids : List Nat} : ∀ ps : List P, renA ids (ps.map D.fz) = some (ps.map D.fz)
  | [] => rfl
  | p :: r => by rw [List.map_cons]; unfold renA; rw [renA_fz r]; rfl
theorem callF_fz {F : DF} {ps : List P} {q : P} {η : Et} {st : Sr} (h : F (ps.map D.fz) [] = .ok (.fz q, [])) : callF F (ps.map D.fz) η st = .ok (.fz q, st) := by
  unfold callF
  rw [cellsA_fz]
  show callI F [] (ps.map D.fz) η st = _
  unfold callI
  rw [if_pos List.nodup_nil, renA_fz]
  show (match F (ps.map D.fz) [] with
    | .ok (d, st2) => if ([] : List Nat).length ≤ st2.length then R.ok (bkD [] st.length d, backS [] st st2) else .stuck
    | .exc c fs _ st2 => if ([] : List Nat).length ≤ st2.length then .exc c fs η (backS [] st st2) else .stuck
    | .stuck => .stuck) = _
  rw [h]
  show R.ok (D.fz q, putAll st [] _ ++ []) = _
  rw [List.append_nil]
  rfl
theorem callF_exc {F : DF} {ps : List P} {c : Str} {fs : Option (List (Str × P))} {η : Et} {st : Sr} (h : F (ps.map D.fz) [] = .exc c fs [] []) : callF F (ps.map D.fz) η st = .exc c fs η st := by
  unfold callF
  rw [cellsA_fz]
  show callI F [] (ps.map D.fz) η st = _
  unfold callI
  rw [if_pos List.nodup_nil, renA_fz]
  show (match F (ps.map D.fz) [] with
    | .ok (d, st2) => if ([] : List Nat).length ≤ st2.length then R.ok (bkD [] st.length d, backS [] st st2) else .stuck
    | .exc c fs _ st2 => if ([] : List Nat).length ≤ st2.length then .exc c fs η (backS [] st st2) else .stuck
    | .stuck => .stuck) = _
  rw [h]
  show R.exc c fs η (putAll st [] _ ++ []) = _
  rw [List.append_nil]
  rfl
theorem cellsA_c {n : Nat} {bs : List P} : ∀ as : List P, cellsA (as.map D.fz ++ .cell n :: bs.map D.fz) = [n]
  | [] => by show [n] ++ cellsA (bs.map D.fz) = [n]; rw [cellsA_fz]; rfl
  | a :: r => by show [] ++ cellsA (r.map D.fz ++ .cell n :: bs.map D.fz) = [n]; rw [cellsA_c r]; rfl
theorem idx_self (n : Nat) : idx n [n] = some 0 := by unfold idx; rw [if_pos rfl]
theorem renA_c {n : Nat} {bs : List P} : ∀ as : List P, renA [n] (as.map D.fz ++ .cell n :: bs.map D.fz) = some (as.map D.fz ++ .cell 0 :: bs.map D.fz)
  | [] => by
    show (match ren [n] (.cell n), renA [n] (bs.map D.fz) with
      | some d', some ds' => some (d' :: ds')
      | _, _ => none) = _
    rw [renA_fz]
    show (match (idx n [n]).map D.cell, some (bs.map D.fz) with
      | some d', some ds' => some (d' :: ds')
      | _, _ => none) = _
    rw [idx_self]
    rfl
  | a :: r => by
    show (match ren [n] (.fz a), renA [n] (r.map D.fz ++ .cell n :: bs.map D.fz) with
      | some d', some ds' => some (d' :: ds')
      | _, _ => none) = _
    rw [renA_c r]
    rfl
theorem reach_c {st : Sr} {n : Nat} {c : Ct} (hn : st[n]? = some c) (hc : plainC c = true) : reach st [n] = [n] := by
  have g1 : grow st [n] [n] = [n] := by
    show grow st (match st[n]? with | some c => addNew [n] (cellsC c) | none => [n]) [] = [n]
    rw [hn]
    show grow st (addNew [n] (cellsC c)) [] = [n]
    rw [plainC_cells hc]
    rfl
  show grow st (grow st [n] [n]) (grow st [n] [n]) = [n]
  rw [g1, g1]
theorem subS_c {st : Sr} {n : Nat} {c : Ct} (hn : st[n]? = some c) (hc : plainC c = true) : subS [n] st = some [c] := by
  show (match st[n]? with
    | some c => match renC [n] c, subG [n] st [] with
      | some c', some cs => some (c' :: cs)
      | _, _ => none
    | none => none) = _
  rw [hn]
  show (match renC [n] c, some ([] : Sr) with
      | some c', some cs => some (c' :: cs)
      | _, _ => none) = _
  rw [plainC_ren hc]
theorem nodup_one (n : Nat) : [n].Nodup := by simp
/-- one cell among the arguments -/
theorem callF_c {F : DF} {as bs : List P} {q : P} {c c' : Ct} {η : Et} {st : Sr} {n : Nat} (hn : st[n]? = some c) (hc : plainC c = true) (hc' : plainC c' = true) (h : F (as.map D.fz ++ .cell 0 :: bs.map D.fz) [c] = .ok (.fz q, [c'])) :
    callF F (as.map D.fz ++ .cell n :: bs.map D.fz) η st = .ok (.fz q, st.set n c') := by
  unfold callF
  rw [cellsA_c, reach_c hn hc]
  unfold callI
  rw [if_pos (nodup_one n), renA_c, subS_c hn hc]
  show (match F (as.map D.fz ++ .cell 0 :: bs.map D.fz) [c] with
    | .ok (d, st2) => if [n].length ≤ st2.length then R.ok (bkD [n] st.length d, backS [n] st st2) else .stuck
    | .exc c fs _ st2 => if [n].length ≤ st2.length then .exc c fs η (backS [n] st st2) else .stuck
    | .stuck => .stuck) = _
  rw [h]
  show R.ok (D.fz q, putAll st [n] ([c'].map (bkC [n] st.length)) ++ []) = _
  rw [List.append_nil, List.map_cons, List.map_nil, plainC_bk hc']
  rfl
end M
namespace M
open PySem L2
theorem exit0 {p : P} {st : Sr} : exitF true 0 (.fz p) st = .ok (.fz p, []) := by
  show exitI 0 (.fz p) st = _
  unfold exitI
  rw [if_pos ⟨rfl, List.nodup_nil⟩]
  rfl
theorem exit1 {p : P} {st : Sr} {c : Ct} (hn : st[0]? = some c) (hc : plainC c = true) : exitF true 1 (.fz p) st = .ok (.fz p, [c]) := by
  show exitI 1 (.fz p) st = _
  have e : reach st (List.range 1 ++ cellsD (.fz p)) = [0] := reach_c hn hc
  unfold exitI
  rw [e, if_pos ⟨rfl, nodup_one 0⟩, subS_c hn hc]
  rfl
theorem run1 {np n : Nat} {b : DS} {ds : List D} {p : P} {η' : Et} {st' : Sr} {c0 c : Ct} (hl : ds.length = np) (h : b (ds.map some ++ List.replicate (n - np) none) [c0] = .ok (.rt (.fz p), η', st')) (hn : st'[0]? = some c) (hc : plainC c = true) : runF np n true b ds [c0] = .ok (.fz p, [c]) := by
  unfold runF
  rw [if_pos hl, h]
  exact exit1 hn hc
end M
namespace M
open PySem L2
theorem ge62 (k : Nat) : -(2 ^ 62 : Int) ≤ (k : Int) := Int.le_trans (b := 0) (by decide +kernel) (Int.natCast_nonneg k)
theorem lt62 {k : Nat} (h : k ≤ 1000000) : (k : Int) < 2 ^ 62 := Int.lt_of_le_of_lt (b := ((1000000 : Nat) : Int)) (Int.ofNat_le.mpr h) (by decide +kernel)
theorem forR1_eq {f : DA} {g : DG} {b : DS} {η : Et} {st st' : Sr} {k : Nat} (hf : f η st = .ok ([.fz (.int k)], st')) (hk : k ≤ 1000000) : dForR1 f g b η st = loopD g b (rangeP 0 k) η st' := by
  unfold dForR1
  rw [hf, bind_ok]
  exact if_pos ⟨ge62 k, lt62 hk⟩
end M
namespace M
open PySem L2
theorem e64 : (2 ^ 64 : Int) = 18446744073709551616 := by decide +kernel
theorem mulO_l {i j : Int} {st : Sr} (h : -18446744073709551616 < i ∧ i < 18446744073709551616) : mulO (.fz (.int i)) (.fz (.int j)) st = .ok (.fz (.int (i * j)), st) := by
  show (if (-(2 ^ 64) < i ∧ i < 2 ^ 64) ∨ (-(2 ^ 64) < j ∧ j < 2 ^ 64) then R.ok (D.fz (.int (i * j)), st) else .stuck) = _
  exact if_pos (.inl (by rw [e64]; exact h))
theorem modO_ok {i j : Int} {st : Sr} (h : 0 < j) : modO (.fz (.int i)) (.fz (.int j)) st = .ok (.fz (.int (i % j)), st) := by
  show (match (if 0 < j then some (P.int (i % j)) else none) with | some p => R.ok (D.fz p, st) | none => .stuck) = _
  rw [if_pos h]
theorem fdivO_ok {i j : Int} {st : Sr} (h : 0 < j ∧ j < 1073741824) : fdivO (.fz (.int i)) (.fz (.int j)) st = .ok (.fz (.int (i / j)), st) := by
  show (match (if 0 < j ∧ j < 1073741824 then some (P.int (i / j)) else none) with | some p => R.ok (D.fz p, st) | none => .stuck) = _
  rw [if_pos h]
end M
end
section
set_option Elab.async false
set_option linter.all false
set_option maxRecDepth 100000
set_option maxHeartbeats 0
namespace M
open PySem L2
section
variable {η η' : Et} {st st' s1 s2 s3 : Sr} {f g h : DE} {fa ga : DA} {t u : DT} {a b c d : D} {as bs : List D} {p q : P} {i j n : Nat}
theorem e_var (h : η[i]? = some (some d)) : dVar i η st = .ok (d, st) := by unfold dVar; rw [h]
theorem e_bin {o : D → D → Sr → R (D × Sr)} {r : R (D × Sr)} (h1 : f η st = .ok (a, s1)) (h2 : g η s1 = .ok (b, s2)) (h3 : o a b s2 = r) : dBin o f g η st = r := by
  unfold dBin; rw [h1, bind_ok]; dsimp only; rw [h2, bind_ok]; exact h3
theorem e_un {o : D → Sr → R (D × Sr)} {r : R (D × Sr)} (h1 : f η st = .ok (a, s1)) (h3 : o a s1 = r) : dUn o f η st = r := by
  unfold dUn; rw [h1, bind_ok]; exact h3
theorem e_nil : dNil η st = .ok ([], st) := rfl
theorem e_cons (h1 : f η st = .ok (a, s1)) (h2 : ga η s1 = .ok (bs, s2)) : dCons f ga η st = .ok (a :: bs, s2) := by
  unfold dCons; rw [h1, bind_ok]; dsimp only; rw [h2, bind_ok]
theorem e_ap {o : List D → Sr → R (D × Sr)} {r : R (D × Sr)} (h1 : ga η st = .ok (as, s1)) (h3 : o as s1 = r) : dAp o ga η st = r := by
  unfold dAp; rw [h1, bind_ok]; exact h3
theorem e_part {k : Int} (h1 : f η st = .ok (.fz (.int k), s1)) : dPart f η st = .ok (some k, s1) := by
  unfold dPart; rw [h1, bind_ok]
theorem e_tru {r : R (Bool × Sr)} (h1 : f η st = .ok (a, s1)) (h2 : truO a s1 = r) : dTru f η st = r := by
  unfold dTru; rw [h1, bind_ok]; exact h2
theorem e_not {x : Bool} (h1 : t η st = .ok (x, s1)) : dNot t η st = .ok (!x, s1) := by
  unfold dNot; rw [h1, bind_ok]
variable {x y : DS} {r : R (Fl × Et × Sr)}
variable {pre more : Sr} {xs ys : List P}
theorem peek_lst (h : st[n]? = some (.lst xs)) : peek st (.cell n) = some (.lst xs) := by unfold peek; dsimp only; rw [h]
theorem peek_dct {kvs : List (Key × P)} (h : st[n]? = some (.dct kvs)) : peek st (.cell n) = some (.dct kvs) := by unfold peek; dsimp only; rw [h]
theorem isLst_at (hn : st[n]? = some (.lst xs)) : isLst st (.cell n) = true := by unfold isLst; rw [peek_lst hn]
end
end M
end
section
set_option Elab.async false
set_option linter.all false
set_option maxRecDepth 100000
set_option maxHeartbeats 0
namespace M
open PySem L2
theorem cut_take (xs : List P) (k : Nat) : cutP xs none (some (k : Int)) = xs.take k := by
  unfold cutP
  rw [HT.sIx_none, HT.sIx_nat, List.drop_zero, Nat.sub_zero]
  exact List.take_eq_take_iff.mpr (by omega)
theorem cut_drop (xs : List P) (k : Nat) : cutP xs (some (k : Int)) none = xs.drop k := by
  unfold cutP
  rw [HT.sIx_none, HT.sIx_nat]
  by_cases h : k ≤ xs.length
  · rw [Nat.min_eq_left h]
    exact List.take_of_length_le (by simp)
  · rw [Nat.min_eq_right (by omega), List.drop_eq_nil_of_le (Nat.le_refl _), List.drop_eq_nil_of_le (by omega), List.take_nil]
section
variable {η η' : Et} {st st' s1 s2 s3 : Sr} {f g h : DE} {fa ga : DA} {a b c d : D} {as bs : List D} {p q : P} {i j n : Nat} {xs ys : List P}
/-- a list: frozen, in a cell, in a frozen cell -/
def IsL (st : Sr) (d : D) (xs : List P) : Prop := peek st d = some (.lst xs)
theorem IsL.fz : IsL st (.fz (.lst xs)) xs := rfl
theorem IsL.cell (h : st[n]? = some (.lst xs)) : IsL st (.cell n) xs := peek_lst h
theorem IsL.frz (h : st[n]? = some (.frz (.lst xs))) : IsL st (.cell n) xs := by unfold IsL peek; dsimp only; rw [h]
theorem callF_new {F : DF} {ps : List P} {ct : Ct} (h : F (ps.map D.fz) [] = .ok (.cell 0, [ct])) (hc : plainC ct = true) : callF F (ps.map D.fz) η st = .ok (.cell st.length, st ++ [ct]) := by
  unfold callF
  rw [cellsA_fz]
  show callI F [] (ps.map D.fz) η st = _
  unfold callI
  rw [if_pos List.nodup_nil, renA_fz]
  show (match F (ps.map D.fz) [] with
    | .ok (d, st2) => if ([] : List Nat).length ≤ st2.length then R.ok (bkD [] st.length d, backS [] st st2) else .stuck
    | .exc c fs _ st2 => if ([] : List Nat).length ≤ st2.length then .exc c fs η (backS [] st st2) else .stuck
    | .stuck => .stuck) = _
  rw [h]
  show R.ok (D.cell _, putAll st [] _ ++ [bkC [] st.length ct]) = _
  rw [plainC_bk hc]
  rfl
end
end M
end
section
set_option Elab.async false
set_option linter.all false
set_option maxRecDepth 100000
set_option maxHeartbeats 0
namespace M
open PySem L2
end M
end
section
set_option Elab.async false
set_option linter.all false
set_option maxRecDepth 100000
set_option maxHeartbeats 0
namespace M
open PySem L2
section
variable {η η' η1 : Et} {st st' s1 s2 s3 : Sr} {f g h : DE} {fa ga : DA} {t u : DT} {a b c d : D} {as bs : List D} {p q : P} {i j n : Nat} {xs ys : List P} {x y : DS} {r : R (Fl × Et × Sr)} {z : Int}
variable {ps qs : List (List Int)}
variable {cl : Str} {fs : Option (List (Str × P))}
theorem e_slF {l v : DO} {lo hi : Option Int} {r : R (D × Sr)} (h1 : f η st = .ok (a, s1)) (hl : l η s1 = .ok (lo, s2)) (hu : v η s2 = .ok (hi, s3)) (h3 : slF a lo hi s3 = r) : dSlF f l v η st = r := by
  unfold dSlF; rw [h1, bind_ok]; dsimp only; rw [hl, bind_ok]; dsimp only; rw [hu, bind_ok]; exact h3
end
end M
end
section
set_option Elab.async false
set_option linter.all false
set_option maxRecDepth 100000
set_option maxHeartbeats 0
namespace M
open PySem L2
end M
end
section
set_option Elab.async false
set_option linter.all false
set_option maxRecDepth 100000
set_option maxHeartbeats 0
namespace M
open PySem L2
end M
end
section
set_option Elab.async false
set_option linter.all false
namespace Kd
def chain (A B : List Int) : Prop := A <+: B ∨ B <+: A
theorem chain.symm {A B : List Int} (h : chain A B) : chain B A := Or.symm h
end Kd
end
section
set_option Elab.async false
set_option linter.all false
namespace Kd
inductive Inter : List (List Int) → List (List Int) → List (List Int) → Prop
  | nil : Inter [] [] []
  | left {r u v p} : Inter r u v → Inter (p :: r) (p :: u) v
  | right {r u v q} : Inter r u v → Inter (q :: r) u (q :: v)
theorem Inter.len {r u v : List (List Int)} (h : Inter r u v) : r.flatten.length = u.flatten.length + v.flatten.length := by
  induction h with
  | nil => rfl
  | left _ ih => simp only [List.flatten_cons, List.length_append] at *; omega
  | right _ ih => simp only [List.flatten_cons, List.length_append] at *; omega
section
variable {u v : List (List Int)}
abbrev Ent := List (List Int) × Nat × Nat
def exL (u v : List (List Int)) (e : Ent) : List Ent := (match u[e.2.1]? with | some p => [(e.1 ++ [p], e.2.1 + 1, e.2.2)] | none => []) ++ (match v[e.2.2]? with | some q => [(e.1 ++ [q], e.2.1, e.2.2 + 1)] | none => [])
def lev (u v : List (List Int)) : Nat → List Ent
  | 0 => [([], 0, 0)]
  | t + 1 => (lev u v t).flatMap (exL u v)
/-- the rows at the end -/
def rows (u v : List (List Int)) : List (List (List Int)) := (lev u v (u.length + v.length)).map (·.1)
end
end Kd
end
section
set_option Elab.async false
set_option linter.all false
namespace Kd
/-- a letter: its number, its time, its value -/
structure Lt where
  n : Int
  t : Int
  v : Int
end Kd
end
section
section
set_option Elab.async false
set_option linter.all false
set_option maxRecDepth 100000
set_option maxHeartbeats 0
namespace G
open PySem L2 M
def drawV (xs : List Int) (m : Int) : Int := match xs.getLast? with
  | none => 0
  | some x => x % m
theorem drawV_bd {xs : List Int} {m : Int} (hm : 0 < m) : 0 ≤ drawV xs m ∧ drawV xs m < m := by
  unfold drawV
  split
  · exact ⟨Int.le_refl _, hm⟩
  · exact ⟨Int.emod_nonneg _ (by omega), Int.emod_lt_of_pos _ hm⟩
def drawS (xs : List Int) : List Int := xs.dropLast
theorem draw_eq (xs : List Int) {m : Int} (hm : 0 < m) : F_l_draw [.cell 0, .fz (.int m)] [.lst (xs.map P.int)] = .ok (.fz (.int (drawV xs m)), [.lst (xs.dropLast.map P.int)]) := by
  rcases List.eq_nil_or_concat xs with rfl | ⟨ys, y, rfl⟩
  · refine run1 (η' := [some (.cell 0), some (.fz (.int m))]) (st' := [.lst []]) rfl ?_ rfl rfl
    simp [b_l_draw, dSeq, dIf, dTru, dBin, dUn, dAp, dCons, dNil, dVar, dK, dRet, dEx, dAsg, gNm, dSkip, dNot, dOr, dAnd, dCall, dBM, dSl, dPart, dNoPart, lenO, peek, lenP, eqO, neO, truO, truP, isLst, popO, appendO, int1O, intO, addO, mulO, negO, ixO, itemsP, tupO, lstO, listO, tupleO, toPs, toP, szL, drawV]
  · refine run1 (η' := [some (.cell 0), some (.fz (.int m))]) (st' := [.lst (ys.map P.int)]) rfl ?_ ?_ rfl
    · have h1 : ¬ ((ys.length : Int) + 1 = 0) := by omega
      simp [b_l_draw, dSeq, dIf, dTru, dBin, dUn, dAp, dCons, dNil, dVar, dK, dRet, dEx, dAsg, gNm, dSkip, dNot, dOr, dAnd, dCall, dBM, dSl, dPart, dNoPart, lenO, peek, lenP, eqO, neO, truO, truP, isLst, popO, appendO, int1O, intO, addO, mulO, negO, ixO, itemsP, tupO, lstO, listO, tupleO, toPs, toP, szL, drawV, hm, h1]
    · simp
end G
end
section
set_option Elab.async false
set_option linter.all false
set_option maxRecDepth 100000
set_option maxHeartbeats 0
namespace G
open PySem L2 M
theorem in_loop (s0 s2 s3 : Option D) (rest : Sr) : ∀ (l : List P) (acc : List Int) (r : Int) (o : Option D), acc.length + l.length ≤ 100000 → ∃ r' acc' o', acc'.length ≤ acc.length + l.length ∧
    loopD (gNm 5) b_l_stream_2 l [s0, some (.cell 0), s2, s3, some (.fz (.int r)), o] (.lst (acc.map P.int) :: rest) = .ok (.nx, [s0, some (.cell 0), s2, s3, some (.fz (.int r')), o'], .lst (List.map P.int acc') :: rest)
  | [], acc, r, o, _ => ⟨r, acc, o, Nat.le_refl _, rfl⟩
  | x :: l, acc, r, o, h => by
    have hlt : acc.length < 16777216 := by simp at h; omega
    by_cases hc : r / 100 = 0
    · refine ⟨r / 100, acc ++ [r % 100], some (.fz x), by simp, ?_⟩
      have e : b_l_stream_2 [s0, some (.cell 0), s2, s3, some (.fz (.int r)), some (.fz x)] (.lst (acc.map P.int) :: rest) = .ok (.bk, [s0, some (.cell 0), s2, s3, some (.fz (.int (r / 100))), some (.fz x)], .lst ((acc ++ [r % 100]).map P.int) :: rest) := by
        simp [b_l_stream_2, dSeq, dIf, dTru, dBin, dUn, dAp, dCons, dNil, dVar, dK, dRet, dEx, dAsg, gNm, dSkip, dNot, dOr, dAnd, dCall, dBM, dSl, dPart, dNoPart, lenO, peek, lenP, eqO, neO, truO, truP, isLst, popO, appendO, int1O, intO, addO, mulO, negO, ixO, itemsP, tupO, lstO, listO, tupleO, toPs, toP, szL, dBrk, hlt, hc]
      unfold loopD
      show ((b_l_stream_2 [s0, some (.cell 0), s2, s3, some (.fz (.int r)), some (.fz x)] (.lst (acc.map P.int) :: rest)).bind fun r => _) = _
      rw [e]
      rfl
    · obtain ⟨r', acc', o', hl, ih⟩ := in_loop s0 s2 s3 rest l (acc ++ [r % 100]) (r / 100) (some (.fz x)) (by simp at h ⊢; omega)
      refine ⟨r', acc', o', by simp at hl ⊢; omega, ?_⟩
      have e : b_l_stream_2 [s0, some (.cell 0), s2, s3, some (.fz (.int r)), some (.fz x)] (.lst (acc.map P.int) :: rest) = .ok (.nx, [s0, some (.cell 0), s2, s3, some (.fz (.int (r / 100))), some (.fz x)], .lst ((acc ++ [r % 100]).map P.int) :: rest) := by
        simp [b_l_stream_2, dSeq, dIf, dTru, dBin, dUn, dAp, dCons, dNil, dVar, dK, dRet, dEx, dAsg, gNm, dSkip, dNot, dOr, dAnd, dCall, dBM, dSl, dPart, dNoPart, lenO, peek, lenP, eqO, neO, truO, truP, isLst, popO, appendO, int1O, intO, addO, mulO, negO, ixO, itemsP, tupO, lstO, listO, tupleO, toPs, toP, szL, dBrk, hlt, hc]
      unfold loopD
      show ((b_l_stream_2 [s0, some (.cell 0), s2, s3, some (.fz (.int r)), some (.fz x)] (.lst (acc.map P.int) :: rest)).bind fun r => _) = _
      rw [e]
      exact ih
end G
end
section
set_option Elab.async false
set_option linter.all false
set_option maxRecDepth 100000
set_option maxHeartbeats 0
namespace G
open PySem L2 M
theorem two_ok {j : Int} {st : Sr} : mulO (.fz (.int 2)) (.fz (.int j)) st = .ok (.fz (.int (2 * j)), st) := mulO_l (by decide +kernel)
theorem sA (s0 : Option D) (rest : Sr) (k : Nat) (z a : Int) (acc : List Int) (o4 o5 : Option D) (hae : (if z < 0 then -z else z) = a) :
    dAsg (dAp absO (dCons (dVar 3) (dNil))) (gNm 4) [s0, some (.cell 0), some (.fz (.int k)), some (.fz (.int z)), o4, o5] (.lst (acc.map P.int) :: rest) = .ok (.nx, [s0, some (.cell 0), some (.fz (.int k)), some (.fz (.int z)), some (.fz (.int a)), o5], .lst (acc.map P.int) :: rest) := by
  simp [dSeq, dIf, dTru, dBin, dUn, dAp, dCons, dNil, dVar, dK, dRet, dEx, dAsg, gNm, dSkip, dNot, dOr, dAnd, dCall, dBM, dSl, dPart, dNoPart, lenO, peek, lenP, eqO, neO, truO, truP, isLst, popO, appendO, int1O, intO, addO, negO, ixO, itemsP, tupO, lstO, listO, tupleO, toPs, toP, szL, absO, hae]
theorem sB (s0 o5 : Option D) (st : Sr) (k : Nat) (z a s : Int) (hs : (if z < 0 then 1 else 0) = s) :
    dBin addO (dBin addO (dK (.int 6364136223846793005)) (dBin mulO (dK (.int 2)) (dVar 2))) (dAp int1O (dCons (dBin ltO (dVar 3) (dK (.int 0))) (dNil))) [s0, some (.cell 0), some (.fz (.int k)), some (.fz (.int z)), some (.fz (.int a)), o5] st = .ok (.fz (.int (6364136223846793005 + 2 * (k : Int) + s)), st) := by
  have e1 : dBin mulO (dK (.int 2)) (dVar 2) [s0, some (.cell 0), some (.fz (.int k)), some (.fz (.int z)), some (.fz (.int a)), o5] st = .ok (.fz (.int (2 * (k : Int))), st) := by
    show mulO (.fz (.int 2)) (.fz (.int k)) st = _
    exact two_ok
  have e2 : dAp int1O (dCons (dBin ltO (dVar 3) (dK (.int 0))) (dNil)) [s0, some (.cell 0), some (.fz (.int k)), some (.fz (.int z)), some (.fz (.int a)), o5] st = .ok (.fz (.int s), st) := by
    rw [← hs]
    by_cases h : z < 0 <;> simp [dSeq, dIf, dTru, dBin, dUn, dAp, dCons, dNil, dVar, dK, dRet, dEx, dAsg, gNm, dSkip, dNot, dOr, dAnd, dCall, dBM, dSl, dPart, dNoPart, lenO, peek, lenP, eqO, neO, truO, truP, isLst, popO, appendO, int1O, intO, addO, negO, ixO, itemsP, tupO, lstO, listO, tupleO, toPs, toP, szL, h]
  show ((((dK (.int 6364136223846793005) _ st).bind fun x => (dBin mulO (dK (.int 2)) (dVar 2) [s0, some (.cell 0), some (.fz (.int k)), some (.fz (.int z)), some (.fz (.int a)), o5] x.2).bind fun y => addO x.1 y.1 y.2)).bind fun x => (dAp int1O (dCons (dBin ltO (dVar 3) (dK (.int 0))) (dNil)) [s0, some (.cell 0), some (.fz (.int k)), some (.fz (.int z)), some (.fz (.int a)), o5] x.2).bind fun y => addO x.1 y.1 y.2) = _
  rw [show dK (.int 6364136223846793005) [s0, some (.cell 0), some (.fz (.int k)), some (.fz (.int z)), some (.fz (.int a)), o5] st = .ok (.fz (.int 6364136223846793005), st) from rfl, bind_ok, e1, bind_ok]
  show ((R.ok (D.fz (.int (6364136223846793005 + 2 * (k : Int))), st)).bind fun x => (dAp int1O (dCons (dBin ltO (dVar 3) (dK (.int 0))) (dNil)) [s0, some (.cell 0), some (.fz (.int k)), some (.fz (.int z)), some (.fz (.int a)), o5] x.2).bind fun y => addO x.1 y.1 y.2) = _
  rw [bind_ok, e2, bind_ok]
  rfl
theorem asg_mod {f g : DE} {η : Et} {st : Sr} {i c m : Int} {j : Nat} (hf : f η st = .ok (.fz (.int i), st)) (hg : g η st = .ok (.fz (.int c), st)) (hi : -18446744073709551616 < i ∧ i < 18446744073709551616) (hm : 0 < m) :
    dAsg (dBin modO (dAp int1O (dCons (dBin mulO f g) (dNil))) (dK (.int m))) (gNm j) η st = .ok (.nx, η.set j (some (.fz (.int (i * c % m)))), st) := by
  simp only [dAsg, dBin, dAp, dCons, hf, hg, bind_ok, mulO_l hi, int1O, modO_ok hm, dK, gNm, dNil]
theorem emod_bd (x : Int) : 0 ≤ x % 1000000000000000003 ∧ x % 1000000000000000003 < 1000000000000000003 := ⟨Int.emod_nonneg _ (by decide +kernel), Int.emod_lt_of_pos _ (by decide +kernel)⟩
theorem bd1 {b : Int} (h0 : 0 ≤ b) (h : b < 1000000000000000000) : -18446744073709551616 < b ∧ b < 18446744073709551616 := by omega
theorem bd2 {b : Int} (h : 0 ≤ b ∧ b < 1000000000000000003) : -18446744073709551616 < b ∧ b < 18446744073709551616 := by omega
theorem seq_nx {f g : DS} {η η' : Et} {st st' : Sr} (h : f η st = .ok (.nx, η', st')) : dSeq f g η st = g η' st' := by
  unfold dSeq
  rw [h]
  rfl
theorem lt_tst {η : Et} {st : Sr} {a m : Int} {i : Nat} (h : η[i]? = some (some (.fz (.int a)))) : dTru (dBin ltO (dVar i) (dK (.int m))) η st = .ok (decide (a < m), st) := by
  unfold dTru dBin dVar
  rw [h]
  rfl
theorem if_t {t : DT} {f g : DS} {η : Et} {st : Sr} (h : t η st = .ok (true, st)) : dIf t f g η st = f η st := by
  unfold dIf
  rw [h]
  rfl
theorem if_f {t : DT} {f g : DS} {η : Et} {st : Sr} (h : t η st = .ok (false, st)) : dIf t f g η st = g η st := by
  unfold dIf
  rw [h]
  rfl
theorem enumP_cons (k : Nat) (p : P) (l : List P) : enumP k (p :: l) = .tup [.int k, p] :: enumP (k + 1) l := rfl
/-- what the inner loop starts from -/
theorem st_body (s0 : Option D) (rest : Sr) (k : Nat) (z : Int) (acc : List Int) (o4 o5 : Option D) (ha : acc.length ≤ 90000) : ∃ r' acc' o5', acc'.length ≤ acc.length + 60 ∧
    b_l_stream_1 [s0, some (.cell 0), some (.fz (.int k)), some (.fz (.int z)), o4, o5] (.lst (acc.map P.int) :: rest) = .ok (.nx, [s0, some (.cell 0), some (.fz (.int k)), some (.fz (.int z)), some (.fz (.int r')), o5'], .lst (List.map P.int acc') :: rest) := by
  have hin := fun r => in_loop s0 (some (.fz (.int k))) (some (.fz (.int z))) rest (rangeP 0 60) acc r o5 (by rw [rangeP_len]; omega)
  have hfor : ∀ r, ∃ r' acc' o', acc'.length ≤ acc.length + 60 ∧ dForR1 (dCons (dK (.int 60)) (dNil)) (gNm 5) b_l_stream_2 [s0, some (.cell 0), some (.fz (.int k)), some (.fz (.int z)), some (.fz (.int r)), o5] (.lst (acc.map P.int) :: rest) = .ok (.nx, [s0, some (.cell 0), some (.fz (.int k)), some (.fz (.int z)), some (.fz (.int r')), o'], .lst (List.map P.int acc') :: rest) := fun r => by
    obtain ⟨r', acc', o', hl, h⟩ := hin r
    rw [rangeP_len] at hl
    exact ⟨r', acc', o', hl, (forR1_eq (k := 60) (st' := .lst (acc.map P.int) :: rest) rfl (by decide)).trans h⟩
  generalize hg : dForR1 (dCons (dK (.int 60)) (dNil)) (gNm 5) b_l_stream_2 = fr at hfor
  obtain ⟨a, hae⟩ : ∃ a : Int, (if z < 0 then -z else z) = a := ⟨_, rfl⟩
  have ha0 : 0 ≤ a := by rw [← hae]; split <;> omega
  unfold b_l_stream_1
  rw [hg, seq_nx (sA s0 rest k z a acc o4 o5 hae)]
  by_cases hz : a < 1000000000000000000
  · obtain ⟨s, hs⟩ : ∃ s : Int, (if z < 0 then 1 else 0) = s := ⟨_, rfl⟩
    obtain ⟨b, hb⟩ : ∃ b : Int, b = a * (6364136223846793005 + 2 * (k : Int) + s) % 1000000000000000003 := ⟨_, rfl⟩
    have hb0 : 0 ≤ b ∧ b < 1000000000000000003 := by rw [hb]; exact emod_bd _
    obtain ⟨d, hd⟩ : ∃ d : Int, d = b * (b + 1442695040888963407) % 1000000000000000009 := ⟨_, rfl⟩
    obtain ⟨r', acc', o', hl, h⟩ := hfor d
    refine ⟨r', acc', o', hl, ?_⟩
    have e1 := asg_mod (j := 4) (m := 1000000000000000003) (f := dVar 4) (i := a) (η := [s0, some (.cell 0), some (.fz (.int k)), some (.fz (.int z)), some (.fz (.int a)), o5]) (st := .lst (acc.map P.int) :: rest) rfl (sB s0 o5 (.lst (acc.map P.int) :: rest) k z a s hs) (bd1 ha0 hz) (by decide +kernel)
    rw [← hb] at e1
    have e2 := asg_mod (j := 4) (m := 1000000000000000009) (f := dVar 4) (g := dBin addO (dVar 4) (dK (.int 1442695040888963407))) (i := b) (c := b + 1442695040888963407) (η := [s0, some (.cell 0), some (.fz (.int k)), some (.fz (.int z)), some (.fz (.int b)), o5]) (st := .lst (acc.map P.int) :: rest) rfl rfl (bd2 hb0) (by decide +kernel)
    rw [← hd] at e2
    have e3 : dIf (dTru (dBin ltO (dVar 4) (dK (.int 1000000000000000000)))) (dSeq (dAsg (dBin modO (dAp int1O (dCons (dBin mulO (dVar 4) (dBin addO (dBin addO (dK (.int 6364136223846793005)) (dBin mulO (dK (.int 2)) (dVar 2))) (dAp int1O (dCons (dBin ltO (dVar 3) (dK (.int 0))) (dNil))))) (dNil))) (dK (.int 1000000000000000003))) (gNm 4)) (dAsg (dBin modO (dAp int1O (dCons (dBin mulO (dVar 4) (dBin addO (dVar 4) (dK (.int 1442695040888963407)))) (dNil))) (dK (.int 1000000000000000009))) (gNm 4))) (dSkip) [s0, some (.cell 0), some (.fz (.int k)), some (.fz (.int z)), some (.fz (.int a)), o5] (.lst (acc.map P.int) :: rest) = .ok (.nx, [s0, some (.cell 0), some (.fz (.int k)), some (.fz (.int z)), some (.fz (.int d)), o5], .lst (acc.map P.int) :: rest) := by
      rw [if_t (by rw [lt_tst (a := a) rfl, decide_eq_true hz]), seq_nx e1]
      exact e2
    rw [seq_nx e3]
    exact h
  · obtain ⟨r', acc', o', hl, h⟩ := hfor a
    refine ⟨r', acc', o', hl, ?_⟩
    rw [seq_nx (if_f (by rw [lt_tst (a := a) rfl, decide_eq_false hz]))]
    exact h
theorem out_loop (s0 : Option D) (rest : Sr) : ∀ (zs : List Int) (k : Nat) (acc : List Int) (o2 o3 o4 o5 : Option D), acc.length + 60 * zs.length ≤ 90000 → ∃ acc' o2' o3' o4' o5',
    loopD (gTp [gNm 2, gNm 3]) b_l_stream_1 (enumP k (zs.map P.int)) [s0, some (.cell 0), o2, o3, o4, o5] (.lst (acc.map P.int) :: rest) = .ok (.nx, [s0, some (.cell 0), o2', o3', o4', o5'], .lst (List.map P.int acc') :: rest)
  | [], k, acc, o2, o3, o4, o5, _ => ⟨acc, o2, o3, o4, o5, rfl⟩
  | z :: zs, k, acc, o2, o3, o4, o5, h => by
    obtain ⟨r', acc1, o5', hl, hb⟩ := st_body s0 rest k z acc o4 o5 (by simp at h; omega)
    obtain ⟨acc', p2, p3, p4, p5, ih⟩ := out_loop s0 rest zs (k + 1) acc1 (some (.fz (.int k))) (some (.fz (.int z))) (some (.fz (.int r'))) o5' (by simp at h; omega)
    refine ⟨acc', p2, p3, p4, p5, ?_⟩
    rw [List.map_cons, enumP_cons]
    unfold loopD
    show ((b_l_stream_1 [s0, some (.cell 0), some (.fz (.int k)), some (.fz (.int z)), o4, o5] (.lst (acc.map P.int) :: rest)).bind fun r => _) = _
    rw [hb]
    exact ih
theorem stream_ex (ns : List Int) : ∃ ys, F_l_stream [.fz (.rol (ns.map P.int))] [] = .ok (.cell 0, [.lst (List.map P.int ys)]) := by
  have hcut : cutP (ns.map P.int) none (some 63) = (ns.take 63).map P.int := by
    unfold cutP
    rw [HT.sIx_none, show (some (63 : Int)) = some ((63 : Nat) : Int) from rfl, HT.sIx_nat, List.drop_zero, Nat.sub_zero, ← List.map_take]
    congr 1
    rw [List.length_map]
    exact List.take_eq_take_iff.mpr (by omega)
  obtain ⟨acc, o2, o3, o4, o5, h⟩ := out_loop (some (.fz (.rol (ns.map P.int)))) [.frz (.lst ((ns.take 63).map P.int))] (ns.take 63) 0 [] none none none none (by simp; omega)
  refine ⟨acc.reverse, ?_⟩
  have e1 : dAsg (dAp lstO (dNil)) (gNm 1) [some (.fz (.rol (ns.map P.int))), none, none, none, none, none] [] = .ok (.nx, [some (.fz (.rol (ns.map P.int))), some (.cell 0), none, none, none, none], [.lst []]) := rfl
  have e2 : dForE (dCons (dSl (dVar 0) (dNoPart) (dPart (dK (.int 63)))) (dNil)) (gTp [gNm 2, gNm 3]) b_l_stream_1 [some (.fz (.rol (ns.map P.int))), some (.cell 0), none, none, none, none] [.lst []] = .ok (.nx, [some (.fz (.rol (ns.map P.int))), some (.cell 0), o2, o3, o4, o5], [.lst (List.map P.int acc), .frz (.lst ((ns.take 63).map P.int))]) := by
    rw [← hcut] at h ⊢
    exact h
  have e3 : dEx (dBM isLst reverseO (dVar 1) dNil) [some (.fz (.rol (ns.map P.int))), some (.cell 0), o2, o3, o4, o5] [.lst (List.map P.int acc), .frz (.lst ((ns.take 63).map P.int))] = .ok (.nx, [some (.fz (.rol (ns.map P.int))), some (.cell 0), o2, o3, o4, o5], [.lst (List.map P.int acc).reverse, .frz (.lst ((ns.take 63).map P.int))]) := rfl
  have e4 : b_l_stream [some (.fz (.rol (ns.map P.int))), none, none, none, none, none] [] = .ok (.rt (.cell 0), [some (.fz (.rol (ns.map P.int))), some (.cell 0), o2, o3, o4, o5], [.lst (List.map P.int acc).reverse, .frz (.lst ((ns.take 63).map P.int))]) := by
    unfold b_l_stream
    rw [seq_nx e1, seq_nx e2, seq_nx e3]
    rfl
  unfold F_l_stream runF
  refine (if_pos rfl).trans ?_
  show endF false 0 (b_l_stream [some (.fz (.rol (ns.map P.int))), none, none, none, none, none] []) = _
  rw [e4, List.map_reverse]
  rfl
end G
end
section
set_option Elab.async false
set_option linter.all false
set_option maxRecDepth 100000
set_option maxHeartbeats 0
namespace G
open PySem L2 M
def rngI (n : Nat) : List Int := (List.range n).map fun i : Nat => (i : Int)
end G
end
section
set_option Elab.async false
set_option linter.all false
set_option maxRecDepth 100000
set_option maxHeartbeats 0
namespace G
open PySem L2 M
/-- the value at an index -/
def vAt (ws : List Int) (i : Int) : Int := ws.getD i.toNat 0
end G
end
section
set_option Elab.async false
set_option linter.all false
set_option maxRecDepth 100000
set_option maxHeartbeats 0
namespace G
open PySem L2 M
abbrev okIx (ws : List Int) (l : List Int) : Prop := ∀ j ∈ l, 0 ≤ j ∧ j < (ws.length : Int)
end G
end
section
set_option Elab.async false
set_option linter.all false
set_option maxRecDepth 100000
set_option maxHeartbeats 0
namespace G
open PySem L2 M
/-- first indexes of each value -/
def hIx (ws : List Int) : List Int → List Int → List Int
  | acc, [] => acc
  | acc, i :: r => if vAt ws i ∈ acc.map (vAt ws) then hIx ws acc r else hIx ws (acc ++ [i]) r
theorem rng_okIx (ws : List Int) : okIx ws (rngI ws.length) := fun j hj => by
  unfold rngI at hj
  obtain ⟨n, hn, rfl⟩ := List.mem_map.mp hj
  have := List.mem_range.mp hn
  omega
theorem rng_len (n : Nat) : (rngI n).length = n := by simp [rngI]
def headsIx (ws : List Int) : List Int := hIx ws [] (rngI ws.length)
end G
end
section
set_option Elab.async false
set_option linter.all false
set_option maxRecDepth 100000
set_option maxHeartbeats 0
namespace G
open PySem L2 M
theorem vAt_nat (ws : List Int) (n : Nat) : vAt ws (n : Int) = ws.getD n 0 := by unfold vAt; rw [Int.toNat_natCast]
theorem map_rng (ws : List Int) : (rngI ws.length).map (vAt ws) = ws := by
  apply List.ext_getElem?
  intro n
  unfold rngI
  rw [List.map_map, List.getElem?_map]
  by_cases h : n < ws.length
  · rw [List.getElem?_range h, List.getElem?_eq_getElem h]
    show some (vAt ws (n : Int)) = _
    rw [vAt_nat, List.getD_eq_getElem?_getD, List.getElem?_eq_getElem h]
    rfl
  · rw [List.getElem?_eq_none (by simpa using h), List.getElem?_eq_none (by simpa using h)]
    rfl
theorem map_hIx (ws : List Int) : ∀ (l acc : List Int), (hIx ws acc l).map (vAt ws) = Kd.hgo (acc.map (vAt ws)) (l.map (vAt ws))
  | [], acc => rfl
  | i :: l, acc => by
    by_cases h : vAt ws i ∈ acc.map (vAt ws)
    · rw [show hIx ws acc (i :: l) = hIx ws acc l by rw [hIx, if_pos h], List.map_cons, show Kd.hgo (acc.map (vAt ws)) (vAt ws i :: l.map (vAt ws)) = Kd.hgo (acc.map (vAt ws)) (l.map (vAt ws)) by rw [Kd.hgo, if_pos h]]
      exact map_hIx ws l acc
    · rw [show hIx ws acc (i :: l) = hIx ws (acc ++ [i]) l by rw [hIx, if_neg h], List.map_cons, show Kd.hgo (acc.map (vAt ws)) (vAt ws i :: l.map (vAt ws)) = Kd.hgo (acc.map (vAt ws) ++ [vAt ws i]) (l.map (vAt ws)) by rw [Kd.hgo, if_neg h]]
      rw [map_hIx ws l (acc ++ [i]), List.map_append]
      rfl
theorem map_heads (ws : List Int) : (headsIx ws).map (vAt ws) = Kd.heads ws := by
  unfold headsIx
  rw [map_hIx, map_rng]
  rfl
end G
end
section
set_option Elab.async false
set_option linter.all false
set_option maxRecDepth 100000
set_option maxHeartbeats 0
namespace G
open PySem L2 M
theorem hIx_ok (ws : List Int) : ∀ (l acc : List Int), okIx ws l → okIx ws acc → okIx ws (hIx ws acc l) ∧ (hIx ws acc l).length ≤ acc.length + l.length
  | [], acc, _, h => ⟨h, Nat.le_refl _⟩
  | i :: l, acc, hl, ha => by
    have hl' : okIx ws l := fun j hj => hl j (List.mem_cons_of_mem _ hj)
    unfold hIx
    split
    · obtain ⟨h1, h2⟩ := hIx_ok ws l acc hl' ha
      exact ⟨h1, by simp at h2 ⊢; omega⟩
    · obtain ⟨h1, h2⟩ := hIx_ok ws l (acc ++ [i]) hl' (fun j hj => by
        rcases List.mem_append.mp hj with h | h
        · exact ha j h
        · simp at h; subst h; exact hl _ List.mem_cons_self)
      exact ⟨h1, by simp at h2 ⊢; omega⟩
theorem heads_ok (ws : List Int) : okIx ws (headsIx ws) ∧ (headsIx ws).length ≤ ws.length := by
  have h := hIx_ok ws (rngI ws.length) [] (rng_okIx ws) (fun _ h => by cases h)
  rw [rng_len] at h
  exact ⟨h.1, by unfold headsIx; simpa using h.2⟩
theorem hlen (l : List Int) : (Kd.heads l).length ≤ l.length := by
  rw [← map_heads, List.length_map]; exact (heads_ok l).2
end G
end
end
section
set_option Elab.async false
set_option linter.all false
set_option maxRecDepth 100000
set_option maxHeartbeats 0
namespace N
open PySem L2 M
inductive Rs (α : Type) where
  | ok (a : α) | exc (c : Str) (fs : Option (List (Str × P))) | stuck
variable {α β γ δ σ ρ τ : Type}
def Rs.bind (m : Rs α) (k : α → Rs β) : Rs β := match m with
  | .ok a => k a
  | .exc c fs => .exc c fs
  | .stuck => .stuck
@[simp] theorem ok_bind (a : α) (k : α → Rs β) : (Rs.ok a).bind k = k a := rfl
@[simp] theorem stuck_bind (k : α → Rs β) : (Rs.stuck : Rs α).bind k = .stuck := rfl
@[simp] theorem exc_bind (c : Str) (fs : Option (List (Str × P))) (k : α → Rs β) : (Rs.exc c fs : Rs α).bind k = .exc c fs := rfl
class Em (α : Type) where
  em : α → P
abbrev em [Em α] (a : α) : P := Em.em a
abbrev fe [Em α] (a : α) : D := .fz (em a)
/-- a tuple of any length -/
structure Tu (α : Type) where
  l : List α
  deriving DecidableEq
structure T1 (α : Type) where
  a : α
  deriving DecidableEq
structure T2 (α β : Type) where
  a : α
  b : β
  deriving DecidableEq
structure T3 (α β γ : Type) where
  a : α
  b : β
  c : γ
  deriving DecidableEq
structure T4 (α β γ δ : Type) where
  a : α
  b : β
  c : γ
  d : δ
  deriving DecidableEq
structure T5 (α β γ δ σ : Type) where
  a : α
  b : β
  c : γ
  d : δ
  e : σ
  deriving DecidableEq
structure T6 (α β γ δ σ τ : Type) where
  a : α
  b : β
  c : γ
  d : δ
  e : σ
  f : τ
  deriving DecidableEq
instance : Em Int := ⟨.int⟩
instance : Em Bool := ⟨.bl⟩
instance : Em Str := ⟨.str⟩
instance : Em Unit := ⟨fun _ => .non⟩
instance : Em P := ⟨id⟩
instance [Em α] : Em (List α) := ⟨fun xs => .lst (xs.map em)⟩
instance [Em α] : Em (Tu α) := ⟨fun xs => .tup (xs.l.map em)⟩
instance [Em α] : Em (Option α) := ⟨fun o => match o with | some a => em a | none => .non⟩
instance [Em α] : Em (T1 α) := ⟨fun t => .tup [em t.a]⟩
instance [Em α] [Em β] : Em (T2 α β) := ⟨fun t => .tup [em t.a, em t.b]⟩
instance [Em α] [Em β] [Em γ] : Em (T3 α β γ) := ⟨fun t => .tup [em t.a, em t.b, em t.c]⟩
instance [Em α] [Em β] [Em γ] [Em δ] : Em (T4 α β γ δ) := ⟨fun t => .tup [em t.a, em t.b, em t.c, em t.d]⟩
instance [Em α] [Em β] [Em γ] [Em δ] [Em σ] : Em (T5 α β γ δ σ) := ⟨fun t => .tup [em t.a, em t.b, em t.c, em t.d, em t.e]⟩
instance [Em α] [Em β] [Em γ] [Em δ] [Em σ] [Em τ] : Em (T6 α β γ δ σ τ) := ⟨fun t => .tup [em t.a, em t.b, em t.c, em t.d, em t.e, em t.f]⟩
class EmE (α : Type) [Em α] [DecidableEq α] where
  eqe : ∀ a b : α, PyData.eqv (toPy (em a)) (toPy (em b)) = decide (a = b)
  can : ∀ a : α, PyData.canLay0 (toPy (em a)) = true
  dep : Nat
  dle : ∀ a : α, PyData.depth (toPy (em a)) ≤ dep
open EmE
theorem toPys_em [Em α] : ∀ xs : List α, toPys (xs.map em) = xs.map fun a => toPy (em a)
  | [] => rfl
  | x :: xs => by rw [List.map_cons]; unfold toPys; rw [toPys_em xs]; rfl
theorem eqvAll_em [Em α] [DecidableEq α] [EmE α] : ∀ xs ys : List α, PyData.eqvAll (xs.map fun a => toPy (em a)) (ys.map fun a => toPy (em a)) = decide (xs = ys)
  | [], [] => rfl
  | [], _ :: _ => by simp [PyData.eqvAll]
  | _ :: _, [] => by simp [PyData.eqvAll]
  | x :: xs, y :: ys => by
    rw [List.map_cons, List.map_cons, PyData.eqvAll, eqe, eqvAll_em xs ys]
    by_cases h : x = y <;> by_cases h2 : xs = ys <;> simp [h, h2]
theorem canAll_em [Em α] [DecidableEq α] [EmE α] : ∀ xs : List α, PyData.canLayAll0 (xs.map fun a => toPy (em a)) = true
  | [] => rfl
  | x :: xs => by rw [List.map_cons, PyData.canLayAll0, can, canAll_em xs]; rfl
theorem depAll_em [Em α] [DecidableEq α] [EmE α] : ∀ xs : List α, PyData.depthAll (xs.map fun a => toPy (em a)) ≤ dep α
  | [] => Nat.zero_le _
  | x :: xs => by rw [List.map_cons, PyData.depthAll]; exact Nat.max_le.mpr ⟨dle x, depAll_em xs⟩
instance : EmE Int := ⟨fun a b => by show PyData.eqv (.int a) (.int b) = _; rw [PyData.eqv]; rfl, fun _ => rfl, 0, fun _ => Nat.le_refl _⟩
instance : EmE Bool := ⟨fun a b => by cases a <;> cases b <;> decide, fun _ => rfl, 0, fun _ => Nat.le_refl _⟩
instance : EmE Unit := ⟨fun a b => rfl, fun _ => rfl, 0, fun _ => Nat.le_refl _⟩
instance [Em α] [DecidableEq α] [EmE α] : EmE (List α) := ⟨fun a b => by
    show PyData.eqv (.list (toPys (a.map em))) (.list (toPys (b.map em))) = _
    rw [toPys_em, toPys_em, PyData.eqv]; exact eqvAll_em a b, fun a => by
    show PyData.canLay0 (.list (toPys (a.map em))) = _
    rw [toPys_em]; exact canAll_em a, dep α + 1, fun a => by
    show PyData.depth (.list (toPys (a.map em))) ≤ _
    rw [toPys_em]; exact Nat.succ_le_succ (depAll_em a)⟩
instance [Em α] [DecidableEq α] [EmE α] : EmE (Tu α) := ⟨fun a b => by
    show PyData.eqv (.tuple (toPys (a.l.map em))) (.tuple (toPys (b.l.map em))) = _
    rw [toPys_em, toPys_em, PyData.eqv]; refine (eqvAll_em a.l b.l).trans ?_
    cases a; cases b; simp, fun a => by
    show PyData.canLay0 (.tuple (toPys (a.l.map em))) = _
    rw [toPys_em]; exact canAll_em a.l, dep α + 1, fun a => by
    show PyData.depth (.tuple (toPys (a.l.map em))) ≤ _
    rw [toPys_em]; exact Nat.succ_le_succ (depAll_em a.l)⟩
/-- no value of the type is None -/
class NoN (α : Type) [Em α] : Prop where
  nn : ∀ a : α, PyData.eqv (toPy (em a)) .none = false ∧ PyData.eqv .none (toPy (em a)) = false ∧ (em a).isNon = false
instance : NoN Int := ⟨fun _ => ⟨rfl, rfl, rfl⟩⟩
instance : NoN Bool := ⟨fun _ => ⟨rfl, rfl, rfl⟩⟩
instance : NoN Str := ⟨fun _ => ⟨rfl, rfl, rfl⟩⟩
instance [Em α] : NoN (List α) := ⟨fun _ => ⟨rfl, rfl, rfl⟩⟩
instance [Em α] : NoN (Tu α) := ⟨fun _ => ⟨rfl, rfl, rfl⟩⟩
instance [Em α] : NoN (T1 α) := ⟨fun _ => ⟨rfl, rfl, rfl⟩⟩
instance [Em α] [Em β] : NoN (T2 α β) := ⟨fun _ => ⟨rfl, rfl, rfl⟩⟩
instance [Em α] [Em β] [Em γ] : NoN (T3 α β γ) := ⟨fun _ => ⟨rfl, rfl, rfl⟩⟩
instance [Em α] [Em β] [Em γ] [Em δ] : NoN (T4 α β γ δ) := ⟨fun _ => ⟨rfl, rfl, rfl⟩⟩
instance [Em α] [Em β] [Em γ] [Em δ] [Em σ] : NoN (T5 α β γ δ σ) := ⟨fun _ => ⟨rfl, rfl, rfl⟩⟩
instance [Em α] [Em β] [Em γ] [Em δ] [Em σ] [Em τ] : NoN (T6 α β γ δ σ τ) := ⟨fun _ => ⟨rfl, rfl, rfl⟩⟩
instance [Em α] [DecidableEq α] [EmE α] [NoN α] : EmE (Option α) := ⟨fun a b => by
    cases a with
    | none => cases b with
      | none => rfl
      | some b => exact (NoN.nn b).2.1.trans (by simp)
    | some a => cases b with
      | none => exact (NoN.nn a).1.trans (by simp)
      | some b => exact (eqe a b).trans (by simp), fun a => by
    cases a with
    | none => rfl
    | some a => exact can a, dep α, fun a => by
    cases a with
    | none => exact Nat.zero_le _
    | some a => exact dle a⟩
instance [Em α] [DecidableEq α] [EmE α] : EmE (T1 α) := ⟨fun a b => by
    show PyData.eqvAll (toPys [em a.a]) (toPys [em b.a]) = _
    simp only [toPys, PyData.eqvAll, eqe]; cases a; cases b; simp, fun a => by
    show PyData.canLayAll0 (toPys [em a.a]) = true
    simp only [toPys, PyData.canLayAll0, can]; rfl, dep α + 1, fun a => by
    show PyData.depthAll (toPys [em a.a]) + 1 ≤ _
    have h1 := dle a.a
    simp only [toPys, PyData.depthAll]; omega⟩
instance [Em α] [DecidableEq α] [EmE α] [Em β] [DecidableEq β] [EmE β] : EmE (T2 α β) := ⟨fun a b => by
    show PyData.eqvAll (toPys [em a.a, em a.b]) (toPys [em b.a, em b.b]) = _
    simp only [toPys, PyData.eqvAll, eqe]; cases a; cases b; simp, fun a => by
    show PyData.canLayAll0 (toPys [em a.a, em a.b]) = true
    simp only [toPys, PyData.canLayAll0, can]; rfl, max (dep α) (dep β) + 1, fun a => by
    show PyData.depthAll (toPys [em a.a, em a.b]) + 1 ≤ _
    have h1 := dle a.a
    have h2 := dle a.b
    simp only [toPys, PyData.depthAll]; omega⟩
instance [Em α] [DecidableEq α] [EmE α] [Em β] [DecidableEq β] [EmE β] [Em γ] [DecidableEq γ] [EmE γ] : EmE (T3 α β γ) := ⟨fun a b => by
    show PyData.eqvAll (toPys [em a.a, em a.b, em a.c]) (toPys [em b.a, em b.b, em b.c]) = _
    simp only [toPys, PyData.eqvAll, eqe]; cases a; cases b; simp, fun a => by
    show PyData.canLayAll0 (toPys [em a.a, em a.b, em a.c]) = true
    simp only [toPys, PyData.canLayAll0, can]; rfl, max (dep α) (max (dep β) (dep γ)) + 1, fun a => by
    show PyData.depthAll (toPys [em a.a, em a.b, em a.c]) + 1 ≤ _
    have h1 := dle a.a
    have h2 := dle a.b
    have h3 := dle a.c
    simp only [toPys, PyData.depthAll]; omega⟩
instance [Em α] [DecidableEq α] [EmE α] [Em β] [DecidableEq β] [EmE β] [Em γ] [DecidableEq γ] [EmE γ] [Em δ] [DecidableEq δ] [EmE δ] : EmE (T4 α β γ δ) := ⟨fun a b => by
    show PyData.eqvAll (toPys [em a.a, em a.b, em a.c, em a.d]) (toPys [em b.a, em b.b, em b.c, em b.d]) = _
    simp only [toPys, PyData.eqvAll, eqe]; cases a; cases b; simp, fun a => by
    show PyData.canLayAll0 (toPys [em a.a, em a.b, em a.c, em a.d]) = true
    simp only [toPys, PyData.canLayAll0, can]; rfl, max (dep α) (max (dep β) (max (dep γ) (dep δ))) + 1, fun a => by
    show PyData.depthAll (toPys [em a.a, em a.b, em a.c, em a.d]) + 1 ≤ _
    have h1 := dle a.a
    have h2 := dle a.b
    have h3 := dle a.c
    have h4 := dle a.d
    simp only [toPys, PyData.depthAll]; omega⟩
instance [Em α] [DecidableEq α] [EmE α] [Em β] [DecidableEq β] [EmE β] [Em γ] [DecidableEq γ] [EmE γ] [Em δ] [DecidableEq δ] [EmE δ] [Em σ] [DecidableEq σ] [EmE σ] : EmE (T5 α β γ δ σ) := ⟨fun a b => by
    show PyData.eqvAll (toPys [em a.a, em a.b, em a.c, em a.d, em a.e]) (toPys [em b.a, em b.b, em b.c, em b.d, em b.e]) = _
    simp only [toPys, PyData.eqvAll, eqe]; cases a; cases b; simp, fun a => by
    show PyData.canLayAll0 (toPys [em a.a, em a.b, em a.c, em a.d, em a.e]) = true
    simp only [toPys, PyData.canLayAll0, can]; rfl, max (dep α) (max (dep β) (max (dep γ) (max (dep δ) (dep σ)))) + 1, fun a => by
    show PyData.depthAll (toPys [em a.a, em a.b, em a.c, em a.d, em a.e]) + 1 ≤ _
    have h1 := dle a.a
    have h2 := dle a.b
    have h3 := dle a.c
    have h4 := dle a.d
    have h5 := dle a.e
    simp only [toPys, PyData.depthAll]; omega⟩
theorem eqP_em [Em α] [DecidableEq α] [EmE α] (a b : α) : eqP (em a) (em b) = decide (a = b) := eqe a b
theorem shP_em [Em α] [DecidableEq α] [EmE α] (a : α) (h : dep α ≤ 64 := by decide) : shP (em a) = true := by
  show (PyData.canLay0 (toPy (em a)) && decide (PyData.depth (toPy (em a)) ≤ 64)) = true
  rw [can]
  exact decide_eq_true (Nat.le_trans (dle a) h)
end N
end
section
set_option Elab.async false
set_option linter.all false
set_option maxRecDepth 100000
set_option maxHeartbeats 0
namespace N
open PySem L2 M
/-- c: one cell, as it lies; v: frozen data; obj, ls: a cell whose parts are trees; base: all cells below are held by the first r entries -/
inductive Tr where
  | c (ct : Ct) | v (p : P) | obj (cl : Str) (fs : List (Str × Tr)) | ls (xs : List Tr) | base (r : Nat)
abbrev Tr.lst (xs : List P) : Tr := .c (.lst xs)
abbrev Tr.dct (xs : List (Key × P)) : Tr := .c (.dct xs)
abbrev Tr.frz (p : P) : Tr := .c (.frz p)
abbrev Tr.lsD (xs : List D) : Tr := .c (.lsD xs)
abbrev Tr.tuD (xs : List D) : Tr := .c (.tuD xs)
/-- a cell without parts -/
def flatC : Ct → Bool
  | .obj _ _ => false
  | .lsD _ => false
  | .tuD _ => false
  | _ => true
mutual
/-- tree t stands at d, in the cells ids -/
def At (st : Sr) : Tr → D → List Nat → Prop
  | .c ct, d, ids => ∃ n, d = .cell n ∧ ids = [n] ∧ st[n]? = some ct
  | .v p, d, ids => d = .fz p ∧ ids = []
  | .obj cl fs, d, ids => ∃ n ds is, d = .cell n ∧ ids = n :: is ∧ st[n]? = some (.obj cl ds) ∧ AtF st fs ds is
  | .ls xs, d, ids => ∃ n ds is, d = .cell n ∧ ids = n :: is ∧ st[n]? = some (.lsD ds) ∧ AtL st xs ds is
  | .base _, _, ids => ids = []
def AtF (st : Sr) : List (Str × Tr) → List (Str × D) → List Nat → Prop
  | [], ds, ids => ds = [] ∧ ids = []
  | (f, t) :: fs, ds, ids => ∃ d r i j, ds = (f, d) :: r ∧ ids = i ++ j ∧ At st t d i ∧ AtF st fs r j
def AtL (st : Sr) : List Tr → List D → List Nat → Prop
  | [], ds, ids => ds = [] ∧ ids = []
  | t :: ts, ds, ids => ∃ d r i j, ds = d :: r ∧ ids = i ++ j ∧ At st t d i ∧ AtL st ts r j
end
section
variable {st st' : Sr}
mutual
theorem At.frame : ∀ {t : Tr} {d : D} {ids : List Nat}, (∀ i ∈ ids, st'[i]? = st[i]?) → At st t d ids → At st' t d ids
  | .c ct, d, ids, h, a => by
    obtain ⟨n, e1, e2, e3⟩ := a
    exact ⟨n, e1, e2, by rw [h n (by rw [e2]; simp)]; exact e3⟩
  | .v p, d, ids, h, a => a
  | .base _, d, ids, h, a => a
  | .obj cl fs, d, ids, h, a => by
    obtain ⟨n, ds, is, e1, e2, e3, e4⟩ := a
    exact ⟨n, ds, is, e1, e2, by rw [h n (by rw [e2]; simp)]; exact e3, AtF.frame (fun i hi => h i (by rw [e2]; exact List.mem_cons_of_mem _ hi)) e4⟩
  | .ls xs, d, ids, h, a => by
    obtain ⟨n, ds, is, e1, e2, e3, e4⟩ := a
    exact ⟨n, ds, is, e1, e2, by rw [h n (by rw [e2]; simp)]; exact e3, AtL.frame (fun i hi => h i (by rw [e2]; exact List.mem_cons_of_mem _ hi)) e4⟩
theorem AtF.frame : ∀ {fs : List (Str × Tr)} {ds : List (Str × D)} {ids : List Nat}, (∀ i ∈ ids, st'[i]? = st[i]?) → AtF st fs ds ids → AtF st' fs ds ids
  | [], ds, ids, h, a => a
  | (f, t) :: fs, ds, ids, h, a => by
    obtain ⟨d, r, i, j, e1, e2, e3, e4⟩ := a
    exact ⟨d, r, i, j, e1, e2, At.frame (fun k hk => h k (by rw [e2]; exact List.mem_append_left _ hk)) e3, AtF.frame (fun k hk => h k (by rw [e2]; exact List.mem_append_right _ hk)) e4⟩
theorem AtL.frame : ∀ {ts : List Tr} {ds : List D} {ids : List Nat}, (∀ i ∈ ids, st'[i]? = st[i]?) → AtL st ts ds ids → AtL st' ts ds ids
  | [], ds, ids, h, a => a
  | t :: ts, ds, ids, h, a => by
    obtain ⟨d, r, i, j, e1, e2, e3, e4⟩ := a
    exact ⟨d, r, i, j, e1, e2, At.frame (fun k hk => h k (by rw [e2]; exact List.mem_append_left _ hk)) e3, AtL.frame (fun k hk => h k (by rw [e2]; exact List.mem_append_right _ hk)) e4⟩
end
theorem lt_of_at {n : Nat} {c : Ct} (h : st[n]? = some c) : n < st.length := (List.getElem?_eq_some_iff.mp h).1
mutual
theorem At.lt : ∀ {t : Tr} {d : D} {ids : List Nat}, At st t d ids → ∀ i ∈ ids, i < st.length
  | .c ct, d, ids, a, i, hi => by
    obtain ⟨n, e1, e2, e3⟩ := a
    rw [e2, List.mem_singleton] at hi
    subst hi; exact lt_of_at e3
  | .v p, d, ids, a, i, hi => by rw [a.2] at hi; cases hi
  | .base _, d, ids, a, i, hi => by rw [show ids = [] from a] at hi; cases hi
  | .obj cl fs, d, ids, a, i, hi => by
    obtain ⟨n, ds, is, e1, e2, e3, e4⟩ := a
    rw [e2] at hi
    rcases List.mem_cons.mp hi with rfl | hi
    · exact lt_of_at e3
    · exact AtF.lt e4 i hi
  | .ls xs, d, ids, a, i, hi => by
    obtain ⟨n, ds, is, e1, e2, e3, e4⟩ := a
    rw [e2] at hi
    rcases List.mem_cons.mp hi with rfl | hi
    · exact lt_of_at e3
    · exact AtL.lt e4 i hi
theorem AtF.lt : ∀ {fs : List (Str × Tr)} {ds : List (Str × D)} {ids : List Nat}, AtF st fs ds ids → ∀ i ∈ ids, i < st.length
  | [], ds, ids, a, i, hi => by rw [a.2] at hi; cases hi
  | (f, t) :: fs, ds, ids, a, i, hi => by
    obtain ⟨d, r, k, j, e1, e2, e3, e4⟩ := a
    rw [e2] at hi
    rcases List.mem_append.mp hi with hi | hi
    · exact At.lt e3 i hi
    · exact AtF.lt e4 i hi
theorem AtL.lt : ∀ {ts : List Tr} {ds : List D} {ids : List Nat}, AtL st ts ds ids → ∀ i ∈ ids, i < st.length
  | [], ds, ids, a, i, hi => by rw [a.2] at hi; cases hi
  | t :: ts, ds, ids, a, i, hi => by
    obtain ⟨d, r, k, j, e1, e2, e3, e4⟩ := a
    rw [e2] at hi
    rcases List.mem_append.mp hi with hi | hi
    · exact At.lt e3 i hi
    · exact AtL.lt e4 i hi
end
end
/-- the trees that are known to stand in a store -/
abbrev Ow := List (Nat × Tr)
def noBase : Ow → Bool
  | (_, .base _) :: _ => false
  | _ => true
structure OwnW (L : Ow) (st : Sr) (w : List (List Nat)) : Prop where
  len : w.length = L.length
  nd : w.flatten.Nodup
  at_ : ∀ (k n : Nat) (t : Tr) (ids : List Nat), L[k]? = some (n, t) → w[k]? = some ids → At st t (.cell n) ids
  cov : ∀ (m r : Nat), L[0]? = some (m, .base r) → ∀ i, i < m → i ∈ (w.take (r + 1)).flatten ∨ (i ∉ w.flatten ∧ ∃ c, st[i]? = some c ∧ flatC c = true)
def Own (L : Ow) (st : Sr) : Prop := ∃ w, OwnW L st w
theorem nodup_flatW {w : List (List Nat)} : w.flatten.Nodup ↔ (∀ l ∈ w, l.Nodup) ∧ w.Pairwise fun a b => ∀ x, x ∈ a → x ∈ b → False := by
  unfold List.Nodup
  rw [List.pairwise_flatten]
  refine and_congr Iff.rfl ⟨fun h => h.imp fun q x h1 h2 => q x h1 x h2 rfl, fun h => h.imp fun q x h1 y h2 e => q x h1 (by rw [e]; exact h2)⟩
theorem w_uniq {w : List (List Nat)} (h : w.flatten.Nodup) {i j x : Nat} {a b : List Nat} (hi : w[i]? = some a) (hj : w[j]? = some b) (ha : x ∈ a) (hb : x ∈ b) : i = j := by
  have hp := (nodup_flatW.mp h).2
  obtain ⟨l1, e1⟩ := List.getElem?_eq_some_iff.mp hi
  obtain ⟨l2, e2⟩ := List.getElem?_eq_some_iff.mp hj
  rcases Nat.lt_trichotomy i j with c | c | c
  · exact absurd hb (by have := List.pairwise_iff_getElem.mp hp i j l1 l2 c; rw [e1, e2] at this; exact fun q => this _ ha q)
  · exact c
  · exact absurd ha (by have := List.pairwise_iff_getElem.mp hp j i l2 l1 c; rw [e1, e2] at this; exact fun q => this _ hb q)
theorem Own.nil (st : Sr) : Own [] st := ⟨[], rfl, List.nodup_nil, fun k n t ids h => by simp at h, fun m r h => by simp at h⟩
section
variable {L : Ow} {st : Sr}
theorem OwnW.get {w : List (List Nat)} (h : OwnW L st w) {k n : Nat} {c : Ct} (hk : L[k]? = some (n, .c c)) : st[n]? = some c ∧ w[k]? = some [n] := by
  have hl := (List.getElem?_eq_some_iff.mp hk).1
  rw [← h.len] at hl
  have hw := List.getElem?_eq_getElem hl
  obtain ⟨m, e1, e2, e3⟩ := h.at_ k n _ _ hk hw
  cases e1
  exact ⟨e3, by rw [hw, e2]⟩
theorem Own.get (h : Own L st) (k : Nat) {n : Nat} {c : Ct} (hk : L[k]? = some (n, .c c)) : st[n]? = some c := let ⟨_, w⟩ := h; (w.get hk).1
theorem Own.ne (h : Own L st) {i j n m : Nat} {c d : Ct} (hi : L[i]? = some (n, .c c)) (hj : L[j]? = some (m, .c d)) (hn : n = m) : i = j := by
  obtain ⟨w, h⟩ := h
  exact w_uniq h.nd (h.get hi).2 (h.get hj).2 (List.mem_singleton.mpr rfl) (by rw [hn]; exact List.mem_singleton.mpr rfl)
theorem OwnW.lt {w : List (List Nat)} (h : OwnW L st w) : ∀ i ∈ w.flatten, i < st.length := fun i hi => by
  obtain ⟨ids, h1, h2⟩ := List.mem_flatten.mp hi
  obtain ⟨k, hk⟩ := List.getElem?_of_mem h1
  have hl := (List.getElem?_eq_some_iff.mp hk).1
  rw [h.len] at hl
  exact (h.at_ k _ _ ids (List.getElem?_eq_getElem hl) hk).lt i h2
theorem Own.set (h : Own L st) {k n : Nat} {c : Ct} (hk : L[k]? = some (n, .c c)) (c' : Ct) : Own (L.set k (n, .c c')) (st.set n c') := by
  obtain ⟨w, h⟩ := h
  obtain ⟨hs, hw⟩ := h.get hk
  have hkl := (List.getElem?_eq_some_iff.mp hk).1
  refine ⟨w, by rw [List.length_set]; exact h.len, h.nd, fun j m t ids hj hj2 => ?_, fun m r e => ?_⟩
  · by_cases q : k = j
    · subst q
      rw [List.getElem?_set_self hkl] at hj
      cases hj
      rw [hw] at hj2
      cases hj2
      exact ⟨n, rfl, rfl, List.getElem?_set_self (lt_of_at hs)⟩
    · rw [List.getElem?_set_ne q] at hj
      refine (h.at_ j m t ids hj hj2).frame fun i hi => List.getElem?_set_ne ?_
      rintro rfl
      exact q (w_uniq h.nd hw hj2 (List.mem_singleton.mpr rfl) hi)
  · have e' : L[0]? = some (m, .base r) := by
      by_cases q : k = 0
      · subst q
        rw [List.getElem?_set_self hkl] at e
        cases e
      · rwa [List.getElem?_set_ne q] at e
    intro i hi
    rcases h.cov m r e' i hi with z | ⟨z1, ct, z2, z3⟩
    · exact .inl z
    · refine .inr ⟨z1, ct, ?_, z3⟩
      rw [List.getElem?_set_ne]
      · exact z2
      · rintro rfl
        exact z1 (List.mem_flatten.mpr ⟨_, List.mem_of_getElem? hw, List.mem_singleton.mpr rfl⟩)
theorem Own.new (h : Own L st) (c : Ct) : Own (L ++ [(st.length, .c c)]) (st ++ [c]) := by
  obtain ⟨w, h⟩ := h
  refine ⟨w ++ [[st.length]], by rw [List.length_append, List.length_append, h.len]; rfl, ?_, fun j m t ids hj hj2 => ?_, fun m r e i hi => ?_⟩
  · rw [List.flatten_append, List.nodup_append]
    refine ⟨h.nd, by simp, fun a ha b hb => ?_⟩
    have := h.lt a ha
    simp at hb
    omega
  · by_cases q : j < L.length
    · rw [List.getElem?_append_left q] at hj
      rw [List.getElem?_append_left (by rw [h.len]; exact q)] at hj2
      have a := h.at_ j m t ids hj hj2
      exact a.frame fun i hi => List.getElem?_append_left (a.lt i hi)
    · have hjl := (List.getElem?_eq_some_iff.mp hj).1
      rw [List.length_append, List.length_singleton] at hjl
      have hjj : j = L.length := by omega
      subst hjj
      rw [List.getElem?_append_right (Nat.le_refl _), Nat.sub_self] at hj
      rw [← h.len, List.getElem?_append_right (Nat.le_refl _), Nat.sub_self] at hj2
      cases hj
      cases hj2
      exact ⟨_, rfl, rfl, by simp⟩
  · cases L with
    | nil => cases e
    | cons x L =>
      rw [List.take_append, List.flatten_append]
      rcases h.cov m r e i hi with z | ⟨z1, ct, z2, z3⟩
      · exact .inl (List.mem_append_left _ z)
      · have hl := (List.getElem?_eq_some_iff.mp z2).1
        refine .inr ⟨fun z => ?_, ct, by rw [List.getElem?_append_left hl]; exact z2, z3⟩
        rw [List.flatten_append] at z
        rcases List.mem_append.mp z with z | z
        · exact z1 z
        · simp at z; omega
/-- entries that are single cells -/
theorem Own.of (hn : (L.map Prod.fst).Nodup) (hc : ∀ (k n : Nat) (t : Tr), L[k]? = some (n, t) → ∃ c, t = .c c ∧ st[n]? = some c) : Own L st := by
  refine ⟨L.map fun x => [x.1], by rw [List.length_map], ?_, fun k n t ids h1 h2 => ?_, fun m r e => ?_⟩
  · have : (L.map fun x => [x.1]).flatten = L.map Prod.fst := by
      clear hn hc
      induction L with
      | nil => rfl
      | cons x L ih => rw [List.map_cons, List.flatten_cons, ih]; rfl
    rw [this]; exact hn
  · obtain ⟨c, rfl, h3⟩ := hc k n t h1
    rw [List.getElem?_map, h1] at h2
    cases h2
    exact ⟨n, rfl, rfl, h3⟩
  · obtain ⟨c, h, _⟩ := hc 0 m _ e
    cases h
theorem Own.framed {st' : Sr} (h : Own L st) (he : ∀ i, i < st.length → st'[i]? = st[i]?) : Own L st' := by
  obtain ⟨w, h⟩ := h
  exact ⟨w, h.len, h.nd, fun k n t ids h1 h2 => (h.at_ k n t ids h1 h2).frame fun i hi => he i ((h.at_ k n t ids h1 h2).lt i hi), fun m r e i hi => (h.cov m r e i hi).imp id fun ⟨z1, ct, z2, z3⟩ => ⟨z1, ct, by rw [he i (List.getElem?_eq_some_iff.mp z2).1]; exact z2, z3⟩⟩
theorem Own.more (h : Own L st) (cs : Sr) : Own L (st ++ cs) := h.framed fun _ hi => List.getElem?_append_left hi
theorem Own.one (c0 : Ct) : Own [(0, .c c0)] [c0] := Own.of (by simp) fun k n t h => by
  match k, h with
  | 0, h => cases h; exact ⟨c0, rfl, rfl⟩
/-- some of the entries, in any order -/
theorem Own.pickW {is : List Nat} (hn : is.Nodup) (h : Own L st) (hb : ∀ i ∈ is, i < L.length) (hc : ∀ (w : List (List Nat)), OwnW L st w → ∀ m r, (is.map fun i => L.getD i (0, .lst []))[0]? = some (m, .base r) → ∀ i, i < m → i ∈ ((is.map fun i => w.getD i []).take (r + 1)).flatten ∨ (i ∉ (is.map fun i => w.getD i []).flatten ∧ ∃ c, st[i]? = some c ∧ flatC c = true)) : Own (is.map fun i => L.getD i (0, .lst [])) st := by
  obtain ⟨w, h⟩ := h
  have hd : ∀ i ∈ is, L[i]? = some (L.getD i (0, .lst [])) := fun i hi => by
    rw [List.getElem?_eq_getElem (hb i hi), List.getD_eq_getElem?_getD, List.getElem?_eq_getElem (hb i hi)]; rfl
  have hw : ∀ i ∈ is, w[i]? = some (w.getD i []) := fun i hi => by
    have : i < w.length := by rw [h.len]; exact hb i hi
    rw [List.getElem?_eq_getElem this, List.getD_eq_getElem?_getD, List.getElem?_eq_getElem this]; rfl
  refine ⟨is.map fun i => w.getD i [], by rw [List.length_map, List.length_map], ?_, fun j m t ids hj hj2 => ?_, hc w h⟩
  · rw [nodup_flatW]
    refine ⟨fun l hl => ?_, ?_⟩
    · obtain ⟨i, hi, rfl⟩ := List.mem_map.mp hl
      exact (nodup_flatW.mp h.nd).1 _ (List.mem_of_getElem? (hw i hi))
    · rw [List.pairwise_map]
      refine List.Pairwise.imp_of_mem ?_ hn
      intro a b ha hb' hab x h1 h2
      exact hab (w_uniq h.nd (hw a ha) (hw b hb') h1 h2)
  · rw [List.getElem?_map] at hj hj2
    cases hi : is[j]? with
    | none => rw [hi] at hj; cases hj
    | some i =>
      rw [hi] at hj hj2
      have e : L.getD i (0, .lst []) = (m, t) := Option.some.inj hj
      have e2 : w.getD i [] = ids := Option.some.inj hj2
      have him := List.mem_of_getElem? hi
      exact h.at_ i m t ids (by rw [hd i him, e]) (by rw [hw i him, e2])
theorem Own.pick (is : List Nat) (hn : is.Nodup := by decide) (h : Own L st) (hb : ∀ i ∈ is, i < L.length) (hz : (is.map fun i => L.getD i (0, .lst [])).all (fun x => match x.2 with | .base _ => false | _ => true) = true := by rfl) : Own (is.map fun i => L.getD i (0, .lst [])) st :=
  h.pickW hn hb fun w _ m r e => by
    have := List.all_eq_true.mp hz _ (List.mem_of_getElem? e)
    cases this
/-- some of the entries, the base's ones among them -/
theorem Own.pickB (is : List Nat) {m r : Nat} (hn : is.Nodup := by decide) (h : Own L st) (hb : ∀ i ∈ is, i < L.length) (h0 : L[0]? = some (m, .base r) := by rfl) (hp : is.take (r + 1) = List.range (r + 1) := by rfl) : Own (is.map fun i => L.getD i (0, .lst [])) st :=
  h.pickW hn hb fun w ow m' r' e i hi => by
    have h00 : is[0]? = some 0 := by
      have := congrArg (fun l : List Nat => l[0]?) hp
      rw [List.getElem?_take_of_lt (by omega), List.getElem?_range (by omega)] at this
      exact this
    rw [List.getElem?_map, h00] at e
    have e2 : L.getD 0 (0, .lst []) = (m', .base r') := Option.some.inj e
    rw [List.getD_eq_getElem?_getD, h0] at e2
    cases e2
    have et : (is.map fun i => w.getD i []).take (r + 1) = w.take (r + 1) ∨ w.length < r + 1 := by
      by_cases q : w.length < r + 1
      · exact .inr q
      · refine .inl ?_
        rw [← List.map_take, hp]
        refine List.ext_getElem? fun j => ?_
        rw [List.getElem?_map]
        by_cases hj : j < r + 1
        · rw [List.getElem?_range hj, List.getElem?_take_of_lt hj, List.getElem?_eq_getElem (by omega)]
          show some (w.getD j []) = _
          rw [List.getD_eq_getElem?_getD, List.getElem?_eq_getElem (by omega)]; rfl
        · rw [List.getElem?_eq_none (by rw [List.length_range]; omega), List.getElem?_eq_none (by rw [List.length_take]; omega)]; rfl
    have sub : ∀ x ∈ (is.map fun i => w.getD i []).flatten, x ∈ w.flatten := fun x hx => by
      obtain ⟨l, hl, hxl⟩ := List.mem_flatten.mp hx
      obtain ⟨j, hj, rfl⟩ := List.mem_map.mp hl
      have hjl : j < w.length := by rw [ow.len]; exact hb j hj
      rw [List.getD_eq_getElem?_getD, List.getElem?_eq_getElem hjl] at hxl
      exact List.mem_flatten.mpr ⟨_, List.getElem_mem hjl, hxl⟩
    rcases et with et | et
    · rw [et]
      exact (ow.cov m r h0 i hi).imp id fun ⟨z1, z2⟩ => ⟨fun z => z1 (sub i z), z2⟩
    · exfalso
      have hr : r ∈ is := by
        have : r ∈ is.take (r + 1) := by rw [hp]; exact List.mem_range.mpr (by omega)
        exact List.mem_of_mem_take this
      have := hb r hr
      rw [← ow.len] at this
      omega
end
end N
end
section
set_option Elab.async false
set_option linter.all false
set_option maxRecDepth 100000
set_option maxHeartbeats 0
namespace N
open PySem L2 M
variable {α β γ δ σ ρ τ κ J : Type}
abbrev XP := Et → Sr → Prop
/-- what native m promises of c -/
def Wk (L : Ow) (m : Rs γ) (c : Sr → R α) (Q : γ → α → Prop) (X : XP) : Prop := ∀ st, Own L st → match m with
  | .ok g => ∃ a, c st = .ok a ∧ Q g a
  | .exc cl fs => ∃ η st', c st = .exc cl fs η st' ∧ X η st'
  | .stuck => True
/-- a value without any doing -/
def Ev (L : Ow) (c : Sr → R (β × Sr)) (v : β) : Prop := ∀ st, Own L st → c st = .ok (v, st)
def PV (rep : γ → β) (L' : γ → Ow) : γ → (β × Sr) → Prop := fun g a => a.1 = rep g ∧ Own (L' g) a.2
/-- a new cell -/
def PC (ct : γ → Ct) (L' : γ → Ow) : γ → (D × Sr) → Prop := fun g a => ∃ n, a.1 = .cell n ∧ Own (L' g ++ [(n, .c (ct g))]) a.2
def th (c : Sr → R (β × Sr)) (K : β → Sr → R α) : Sr → R α := fun st => (c st).bind fun a => K a.1 a.2
section
variable {L L1 : Ow} {m : Rs γ} {Q : γ → α → Prop} {X : XP} {η : Et} {c : Sr → R (β × Sr)} {K : β → Sr → R α} {v : β}
theorem we (h : Ev L c v) (hk : Wk L m (K v) Q X) : Wk L m (th c K) Q X := fun st o => by
  have e : th c K st = K v st := by unfold th; rw [h st o]; rfl
  have := hk st o
  rw [← e] at this
  exact this
theorem wv {m1 : Rs δ} {k : δ → Rs γ} {rep : δ → β} {L' : δ → Ow} (h : Wk L m1 c (PV rep L') X) (hk : ∀ g, Wk (L' g) (k g) (K (rep g)) Q X) : Wk L (m1.bind k) (th c K) Q X := fun st o => by
  have h := h st o
  cases m1 with
  | stuck => trivial
  | exc cl fs =>
    obtain ⟨e, st', h1, h2⟩ := h
    exact ⟨e, st', by unfold th; rw [h1]; rfl, h2⟩
  | ok g =>
    obtain ⟨⟨b, st'⟩, h1, h2, h3⟩ := h
    cases h2
    have e : th c K st = K (rep g) st' := by unfold th; rw [h1]; rfl
    have := hk g st' h3
    rw [← e] at this
    exact this
/-- a pure value as a native one -/
theorem w_ev {rep : γ → β} {t : γ} (h : Ev L c (rep t)) : Wk L (.ok t) c (PV rep fun _ => L) X := fun st o => ⟨_, h st o, rfl, o⟩
theorem w_stuck {c : Sr → R α} : Wk L .stuck c Q X := fun _ _ => trivial
theorem Wk.mono {c : Sr → R α} {Q' : γ → α → Prop} (h : Wk L m c Q X) (hq : ∀ g a, Q g a → Q' g a) : Wk L m c Q' X := fun st o => by
  have h := h st o
  cases m with
  | stuck => trivial
  | exc cl fs => exact h
  | ok g => obtain ⟨a, h1, h2⟩ := h; exact ⟨a, h1, hq _ _ h2⟩
theorem Wk.eqc {c c' : Sr → R α} (h : Wk L m c' Q X) (e : c = c') : Wk L m c Q X := e ▸ h
end
section
variable {L : Ow} {m : Rs γ} {Q : γ → α → Prop} {X : XP} {η : Et} {f g h : DE} {t u : DT} {fa ga : DA}
theorem w_bin {o : D → D → Sr → R (D × Sr)} {Q : γ → D × Sr → Prop} (h : Wk L m (th (f η) fun a => th (g η) fun b => o a b) Q X) : Wk L m (dBin o f g η) Q X := h
theorem w_un {o : D → Sr → R (D × Sr)} {Q : γ → D × Sr → Prop} (h : Wk L m (th (f η) fun a => o a) Q X) : Wk L m (dUn o f η) Q X := h
theorem w_ap {o : List D → Sr → R (D × Sr)} {Q : γ → D × Sr → Prop} (h : Wk L m (th (fa η) fun ds => o ds) Q X) : Wk L m (dAp o fa η) Q X := h
theorem w_call {F : DF} {Q : γ → D × Sr → Prop} (h : Wk L m (th (fa η) fun ds => callF F ds η) Q X) : Wk L m (dCall F fa η) Q X := h
theorem w_nil {K : List D → Sr → R α} (h : Wk L m (K []) Q X) : Wk L m (th (dNil η) K) Q X := h
theorem w_cons {K : List D → Sr → R α} (h : Wk L m (th (f η) fun a => th (ga η) fun bs => K (a :: bs)) Q X) : Wk L m (th (dCons f ga η) K) Q X := by
  refine h.eqc (funext fun st => ?_)
  show ((dCons f ga η st).bind _) = _
  unfold dCons th
  cases f η st with
  | ok a => show (((ga η a.2).bind _).bind _) = ((ga η a.2).bind _); cases ga η a.2 <;> rfl
  | exc c fs e s => rfl
  | stuck => rfl
theorem w_tru {Q : γ → Bool × Sr → Prop} (h : Wk L m (th (f η) fun a => truO a) Q X) : Wk L m (dTru f η) Q X := h
theorem w_not {Q : γ → Bool × Sr → Prop} (h : Wk L m (th (t η) fun b st => .ok (!b, st)) Q X) : Wk L m (dNot t η) Q X := h
theorem w_and {m1 : Rs Bool} {k : Rs Bool} {L' : Bool → Ow} {Q : Bool → Bool × Sr → Prop} (h : Wk L m1 (t η) (PV id L') X) (hf : ∀ st, Own (L' false) st → Q false (false, st)) (hk : Wk (L' true) k (u η) Q X) : Wk L (m1.bind fun b => if b = true then k else .ok false) (dAnd t u η) Q X := by
  refine (wv (K := fun b st => if b = true then u η st else .ok (false, st)) h fun b => ?_ : Wk L _ (th (t η) _) Q X)
  cases b
  · exact fun st o => ⟨_, rfl, hf st o⟩
  · exact hk
theorem w_or {m1 : Rs Bool} {k : Rs Bool} {L' : Bool → Ow} {Q : Bool → Bool × Sr → Prop} (h : Wk L m1 (t η) (PV id L') X) (hf : ∀ st, Own (L' true) st → Q true (true, st)) (hk : Wk (L' false) k (u η) Q X) : Wk L (m1.bind fun b => if b = true then .ok true else k) (dOr t u η) Q X := by
  refine (wv (K := fun b st => if b = true then .ok (true, st) else u η st) h fun b => ?_ : Wk L _ (th (t η) _) Q X)
  cases b
  · exact hk
  · exact fun st o => ⟨_, rfl, hf st o⟩
theorem w_andV {m1 : Rs Bool} {k : Rs Bool} {L' : Bool → Ow} {Q : Bool → D × Sr → Prop} (h : Wk L m1 (f η) (PV fe L') X) (hf : ∀ st, Own (L' false) st → Q false (fe false, st)) (hk : Wk (L' true) k (g η) Q X) : Wk L (m1.bind fun b => if b = true then k else .ok false) (dAndV f g η) Q X := by
  refine (wv (K := fun a st => match a with | .fz (.bl c) => if c = true then g η st else .ok (.fz (.bl false), st) | _ => .stuck) h fun b => ?_ : Wk L _ (th (f η) _) Q X)
  cases b
  · exact fun st o => ⟨_, rfl, hf st o⟩
  · exact hk
theorem w_orV {m1 : Rs Bool} {k : Rs Bool} {L' : Bool → Ow} {Q : Bool → D × Sr → Prop} (h : Wk L m1 (f η) (PV fe L') X) (hf : ∀ st, Own (L' true) st → Q true (fe true, st)) (hk : Wk (L' false) k (g η) Q X) : Wk L (m1.bind fun b => if b = true then .ok true else k) (dOrV f g η) Q X := by
  refine (wv (K := fun a st => match a with | .fz (.bl c) => if c = true then .ok (.fz (.bl true), st) else g η st | _ => .stuck) h fun b => ?_ : Wk L _ (th (f η) _) Q X)
  cases b
  · exact hk
  · exact fun st o => ⟨_, rfl, hf st o⟩
theorem w_notV {m1 : Rs Bool} {L' : Bool → Ow} {Q : Bool → D × Sr → Prop} (h : Wk L m1 (f η) (PV fe L') X) (hk : ∀ b st, Own (L' b) st → Q (!b) (fe !b, st)) : Wk L (m1.bind fun b => .ok !b) (dNotV f η) Q X := by
  refine (wv (K := fun a st => match a with | .fz (.bl c) => .ok (.fz (.bl (!c)), st) | _ => .stuck) h fun b => ?_ : Wk L _ (th (f η) _) Q X)
  exact fun st o => ⟨_, rfl, hk b st o⟩
end
section
variable {L : Ow} {η : Et} {f g h : DE} {t u : DT} {fa ga : DA} {a b d e : D} {ds : List D} {p q : P}
theorem ev_var {i : Nat} (h : η[i]? = some (some d)) : Ev L (dVar i η) d := fun st _ => e_var h
theorem ev_k : Ev L (dK p η) (.fz p) := fun _ _ => rfl
theorem ev_bin {o : D → D → Sr → R (D × Sr)} (h1 : Ev L (f η) a) (h2 : Ev L (g η) b) (h3 : Ev L (o a b) d) : Ev L (dBin o f g η) d := fun st w => e_bin (h1 st w) (h2 st w) (h3 st w)
theorem ev_un {o : D → Sr → R (D × Sr)} (h1 : Ev L (f η) a) (h3 : Ev L (o a) d) : Ev L (dUn o f η) d := fun st w => e_un (h1 st w) (h3 st w)
theorem ev_ap {o : List D → Sr → R (D × Sr)} (h1 : Ev L (fa η) ds) (h3 : Ev L (o ds) d) : Ev L (dAp o fa η) d := fun st w => e_ap (h1 st w) (h3 st w)
theorem ev_nil : Ev L (dNil η) [] := fun _ _ => rfl
theorem ev_cons (h1 : Ev L (f η) a) (h2 : Ev L (ga η) ds) : Ev L (dCons f ga η) (a :: ds) := fun st w => e_cons (h1 st w) (h2 st w)
theorem ev_tru {x : Bool} (h1 : Ev L (f η) a) (h2 : Ev L (truO a) x) : Ev L (dTru f η) x := fun st w => e_tru (h1 st w) (h2 st w)
theorem ev_not {x : Bool} (h1 : Ev L (t η) x) : Ev L (dNot t η) (!x) := fun st w => e_not (h1 st w)
theorem ev_and {x y : Bool} (h1 : Ev L (t η) x) (h2 : Ev L (u η) y) : Ev L (dAnd t u η) (x && y) := fun st w => by
  unfold dAnd; rw [h1 st w, bind_ok]; cases x
  · rfl
  · exact h2 st w
theorem ev_nopart : Ev L (dNoPart η) none := fun _ _ => rfl
theorem ev_part {i : Int} (h1 : Ev L (f η) (fe i)) : Ev L (dPart f η) (some i) := fun st w => e_part (h1 st w)
theorem ev_slF {l v : DO} {lo hi : Option Int} (h1 : Ev L (f η) a) (h2 : Ev L (l η) lo) (h3 : Ev L (v η) hi) (h4 : Ev L (slF a lo hi) d) : Ev L (dSlF f l v η) d := fun st w => e_slF (h1 st w) (h2 st w) (h3 st w) (h4 st w)
end
/-- what a value reads as, frozen or a cell -/
def Pk (L : Ow) (d : D) (p : P) : Prop := ∀ st, Own L st → peek st d = some p
section
variable {L : Ow} {d e : D} {p q : P}
theorem pk_fz : Pk L (.fz p) p := fun _ _ => rfl
theorem pk_lst (k : Nat) {n : Nat} {xs : List P} (h : L[k]? = some (n, .lst xs) := by rfl) : Pk L (.cell n) (.lst xs) := fun st o => by unfold peek; dsimp only; rw [o.get k h]
end
@[irreducible] def idx (xs : List α) (i : Int) : Rs α := match L2.atI xs i with
  | some a => .ok a
  | none => .stuck
def cut (xs : List α) (lo hi : Option Int) : List α := (xs.drop (HT.sIx xs.length 0 lo)).take (HT.sIx xs.length xs.length hi - HT.sIx xs.length 0 lo)
@[irreducible] def app (xs : List α) (x : α) : Rs (List α) := if xs.length < 16777216 then .ok (xs ++ [x]) else .stuck
@[irreducible] def cat (xs ys : List α) : Rs (List α) := if xs.length + ys.length ≤ 16777216 then .ok (xs ++ ys) else .stuck
/-- a bound that the kernel looks at without unfolding a number -/
def smallI (b : Nat) (i : Int) : Bool := match i with
  | .ofNat n => Nat.ble n b
  | .negSucc n => Nat.ble n b
theorem small_iff {b : Nat} {i : Int} : smallI b i = true ↔ -((b : Int) + 1) ≤ i ∧ i ≤ b := by
  cases i with
  | ofNat n =>
    show Nat.ble n b = true ↔ _
    rw [Nat.ble_eq]; simp only [Int.ofNat_eq_natCast]; omega
  | negSucc n =>
    show Nat.ble n b = true ↔ _
    rw [Nat.ble_eq]; omega
@[irreducible] def mulM (i j : Int) : Rs Int := if (smallI 18446744073709551614 i || smallI 18446744073709551614 j) = true then .ok (i * j) else .stuck
@[irreducible] def modM (i j : Int) : Rs Int := if 0 < j then .ok (i % j) else .stuck
@[irreducible] def fdivM (i j : Int) : Rs Int := if 0 < j ∧ j < 1073741824 then .ok (i / j) else .stuck
def rng (lo : Int) (n : Nat) : List Int := (List.range n).map fun i : Nat => lo + (i : Int)
@[irreducible] def rng1 (j : Int) : Rs (List Int) := if smallI 1000000000 j = true then .ok (rng 0 j.toNat) else .stuck
theorem small62 {j : Int} (h : smallI 1000000000 j = true) : -(2 ^ 62 : Int) ≤ j ∧ j < 2 ^ 62 := by
  obtain ⟨h1, h2⟩ := small_iff.mp h
  exact ⟨Int.le_trans (b := -(((1000000000 : Nat) : Int) + 1)) (by decide +kernel) h1, Int.lt_of_le_of_lt (b := ((1000000000 : Nat) : Int)) h2 (by decide +kernel)⟩
theorem small64 {j : Int} (h : smallI 18446744073709551614 j = true) : -(2 ^ 64 : Int) < j ∧ j < 2 ^ 64 := by
  obtain ⟨h1, h2⟩ := small_iff.mp h
  exact ⟨Int.lt_of_lt_of_le (b := -(((18446744073709551614 : Nat) : Int) + 1)) (by decide +kernel) h1, Int.lt_of_le_of_lt (b := ((18446744073709551614 : Nat) : Int)) h2 (by decide +kernel)⟩
def unw (o : Option α) : Rs α := match o with
  | some a => .ok a
  | none => .stuck
def lenI (xs : List α) : Int := xs.length
@[irreducible] def eqM (p q : P) : Rs Bool := if shP p = true ∧ shP q = true then .ok (eqP p q) else .stuck
@[irreducible] def neM (p q : P) : Rs Bool := if shP p = true ∧ shP q = true then .ok (!eqP p q) else .stuck
def calm (m : Rs α) : Rs α := match m with
  | .exc _ _ => .stuck
  | r => r
section
variable {L : Ow} {X : XP} {d e : D} {p q : P} {i j : Int}
theorem rng_map (lo : Int) (n : Nat) : rangeP lo n = (rng lo n).map em := by
  unfold rangeP rng; rw [List.map_map]; rfl
theorem cut_map [Em α] (xs : List α) (lo hi : Option Int) : cutP (xs.map em) lo hi = (cut xs lo hi).map em := by
  unfold cutP cut; rw [List.length_map, List.map_take, List.map_drop]
theorem atI_map {f : α → β} (xs : List α) (i : Int) : L2.atI (xs.map f) i = (L2.atI xs i).map f := by
  unfold L2.atI; rw [List.length_map]
  cases L2.ixN xs.length i with
  | none => rfl
  | some j => show (xs.map f)[j]? = (xs[j]?).map f; rw [List.getElem?_map]
theorem w_idx [Em α] {xs : List α} (h : Pk L d (em xs)) : Wk L (idx xs i) (ixO d (fe i)) (PV fe fun _ => L) X := fun st o => by
  unfold idx
  cases e : L2.atI xs i with
  | none => trivial
  | some a =>
    refine ⟨(fe a, st), ?_, rfl, o⟩
    unfold ixO
    rw [h st o]
    show (match L2.atI (xs.map em) i with | some q => R.ok (D.fz q, st) | none => .stuck) = _
    rw [atI_map, e]; rfl
theorem w_idxT [Em α] {xs : Tu α} (h : Pk L d (em xs)) : Wk L (idx xs.l i) (ixO d (fe i)) (PV fe fun _ => L) X := fun st o => by
  unfold idx
  cases e : L2.atI xs.l i with
  | none => trivial
  | some a =>
    refine ⟨(fe a, st), ?_, rfl, o⟩
    unfold ixO
    rw [h st o]
    show (match L2.atI (xs.l.map em) i with | some q => R.ok (D.fz q, st) | none => .stuck) = _
    rw [atI_map, e]; rfl
theorem ev_tix {ps : List P} (h : L2.atI ps i = some q := by rfl) : Ev L (ixO (.fz (.tup ps)) (fe i)) (.fz q) := fun st o => by
  show (match L2.atI ps i with | some q => R.ok (D.fz q, st) | none => .stuck) = _
  rw [h]
theorem ev_addI : Ev L (addF (fe i) (fe j)) (fe (i + j)) := fun _ _ => rfl
theorem ev_subI : Ev L (subO (fe i) (fe j)) (fe (i - j)) := fun _ _ => rfl
theorem ev_negI : Ev L (negO (fe i)) (fe (-i)) := fun _ _ => rfl
theorem ev_lt : Ev L (ltO (fe i) (fe j)) (fe (decide (i < j))) := fun _ _ => rfl
theorem ev_le : Ev L (leO (fe i) (fe j)) (fe (decide (i ≤ j))) := fun _ _ => rfl
theorem ev_gt : Ev L (gtO (fe i) (fe j)) (fe (decide (j < i))) := fun _ _ => rfl
theorem ev_ge : Ev L (geO (fe i) (fe j)) (fe (decide (j ≤ i))) := fun _ _ => rfl
theorem ev_eq [Em α] [DecidableEq α] [EmE α] {a b : α} (h1 : Pk L d (em a)) (h2 : Pk L e (em b)) (h : EmE.dep α ≤ 64 := by decide) : Ev L (eqO d e) (fe (decide (a = b))) := fun st o => by
  unfold eqO
  rw [h1 st o, h2 st o]
  show (if shP (em a) = true ∧ shP (em b) = true then R.ok (D.fz (.bl (eqP (em a) (em b))), st) else .stuck) = _
  rw [if_pos ⟨shP_em a h, shP_em b h⟩, eqP_em]; rfl
theorem ev_ne [Em α] [DecidableEq α] [EmE α] {a b : α} (h1 : Pk L d (em a)) (h2 : Pk L e (em b)) (h : EmE.dep α ≤ 64 := by decide) : Ev L (neO d e) (fe (!decide (a = b))) := fun st o => by
  unfold neO
  rw [h1 st o, h2 st o]
  show (if shP (em a) = true ∧ shP (em b) = true then R.ok (D.fz (.bl (!eqP (em a) (em b))), st) else .stuck) = _
  rw [if_pos ⟨shP_em a h, shP_em b h⟩, eqP_em]; rfl
theorem w_eqM (h1 : Pk L d p) (h2 : Pk L e q) : Wk L (eqM p q) (eqO d e) (PV fe fun _ => L) X := fun st o => by
  unfold eqM eqO
  rw [h1 st o, h2 st o]
  by_cases h : shP p = true ∧ shP q = true
  · rw [if_pos h]; exact ⟨_, if_pos h, rfl, o⟩
  · rw [if_neg h]; trivial
theorem w_neM (h1 : Pk L d p) (h2 : Pk L e q) : Wk L (neM p q) (neO d e) (PV fe fun _ => L) X := fun st o => by
  unfold neM neO
  rw [h1 st o, h2 st o]
  by_cases h : shP p = true ∧ shP q = true
  · rw [if_pos h]; exact ⟨_, if_pos h, rfl, o⟩
  · rw [if_neg h]; trivial
theorem ev_isN [Em α] [NoN α] {o : Option α} : Ev L (isNO (fe o) (.fz .non)) (fe o.isNone) := fun st _ => by
  cases o with
  | none => rfl
  | some a => show R.ok (D.fz (.bl (em a).isNon), st) = _; rw [(NoN.nn a).2.2]; rfl
theorem ev_notN [Em α] [NoN α] {o : Option α} : Ev L (notNO (fe o) (.fz .non)) (fe o.isSome) := fun st _ => by
  cases o with
  | none => rfl
  | some a => show R.ok (D.fz (.bl !(em a).isNon), st) = _; rw [(NoN.nn a).2.2]; rfl
theorem ev_len [Em α] {xs : List α} (h : Pk L d (em xs)) : Ev L (lenO [d]) (fe (lenI xs)) := fun st o => by
  unfold lenO; dsimp only; rw [h st o]
  show R.ok (D.fz (.int (((xs.map em).length : Nat) : Int)), st) = _
  rw [List.length_map]; rfl
theorem ev_lenT [Em α] {xs : Tu α} (h : Pk L d (em xs)) : Ev L (lenO [d]) (fe (lenI xs.l)) := fun st o => by
  unfold lenO; dsimp only; rw [h st o]
  show R.ok (D.fz (.int (((xs.l.map em).length : Nat) : Int)), st) = _
  rw [List.length_map]; rfl
theorem ev_truB {b : Bool} : Ev L (truO (fe b)) b := fun _ _ => rfl
theorem ev_truL [Em α] {xs : List α} (h : Pk L d (em xs)) : Ev L (truO d) (!xs.isEmpty) := fun st o => by
  unfold truO; rw [h st o]
  show R.ok (!(xs.map em).isEmpty, st) = _
  cases xs <;> rfl
theorem ev_slL [Em α] {xs : List α} {lo hi : Option Int} (h : Pk L d (em xs)) : Ev L (slF d lo hi) (fe (cut xs lo hi)) := fun st o => by
  unfold slF; rw [h st o]
  show R.ok (D.fz (.lst (cutP (xs.map em) lo hi)), st) = _
  rw [cut_map]; rfl
theorem ev_listL [Em α] {xs : List α} (h : Pk L d (em xs)) : Ev L (listF [d]) (fe xs) := fun st o => by
  unfold listF; dsimp only; rw [h st o]; rfl
theorem ev_listT [Em α] {xs : Tu α} (h : Pk L d (em xs)) : Ev L (listF [d]) (fe xs.l) := fun st o => by
  unfold listF; dsimp only; rw [h st o]; rfl
theorem ev_int1 : Ev L (int1O [fe i]) (fe i) := fun _ _ => rfl
theorem toPs_fz (st : Sr) : ∀ ps : List P, toPs st (ps.map D.fz) = some (ps, st)
  | [] => rfl
  | p :: ps => by rw [List.map_cons]; unfold toPs; dsimp only [toP]; rw [toPs_fz st ps]
theorem ev_tup (ps : List P) (hd : d = .fz (.tup ps) := by rfl) {ds : List D} (h : ds = ps.map D.fz := by rfl) (hl : ps.length ≤ 16777216 := by exact Nat.le_of_ble_eq_true rfl) : Ev L (tupO ds) d := fun st o => by
  subst hd; subst h; unfold tupO; rw [toPs_fz]; exact if_pos hl
theorem ev_lst (ps : List P) (hd : d = .fz (.lst ps) := by rfl) {ds : List D} (h : ds = ps.map D.fz := by rfl) (hl : ps.length ≤ 16777216 := by exact Nat.le_of_ble_eq_true rfl) : Ev L (lstF ds) d := fun st o => by
  subst hd; subst h; unfold lstF; rw [toPs_fz]; exact if_pos hl
theorem w_cat [Em α] {xs ys : List α} (h1 : Pk L d (em xs)) (h2 : Pk L e (em ys)) : Wk L (cat xs ys) (addF d e) (PV fe fun _ => L) X := fun st o => by
  unfold cat addF
  rw [h1 st o, h2 st o]
  by_cases h : xs.length + ys.length ≤ 16777216
  · rw [if_pos h]
    refine ⟨(fe (xs ++ ys), st), ?_, rfl, o⟩
    show (if (xs.map em).length + (ys.map em).length ≤ szL then R.ok (D.fz (.lst (xs.map em ++ ys.map em)), st) else .stuck) = _
    rw [List.length_map, List.length_map, if_pos h, ← List.map_append]; rfl
  · rw [if_neg h]; trivial
theorem w_guard [Em α] {p : Prop} [Decidable p] {t : α} {c : Sr → R (D × Sr)} (h : p → ∀ st, Own L st → c st = .ok (fe t, st)) : Wk L (if p then Rs.ok t else .stuck) c (PV fe fun _ => L) X := fun st o => by
  by_cases hp : p
  · rw [if_pos hp]; exact ⟨_, h hp st o, rfl, o⟩
  · rw [if_neg hp]; trivial
theorem w_mul : Wk L (mulM i j) (mulO (fe i) (fe j)) (PV fe fun _ => L) X := by
  unfold mulM
  refine w_guard fun h st o => if_pos ?_
  rcases (Bool.or_eq_true _ _).mp h with h | h
  · exact .inl (small64 h)
  · exact .inr (small64 h)
theorem w_mod : Wk L (modM i j) (modO (fe i) (fe j)) (PV fe fun _ => L) X := by
  unfold modM
  exact w_guard fun h st o => modO_ok h
theorem w_fdiv : Wk L (fdivM i j) (fdivO (fe i) (fe j)) (PV fe fun _ => L) X := by
  unfold fdivM
  exact w_guard fun h st o => fdivO_ok h
end
end N
end
section
set_option Elab.async false
set_option linter.all false
set_option maxRecDepth 100000
set_option maxHeartbeats 0
namespace N
open PySem L2 M
variable {α β γ δ σ ρ τ κ J : Type}
def Src (L : Ow) (d : D) (ps : List P) (L' : Ow) : Prop := ∀ st, Own L st → ∃ p st', toP st d = some (p, st') ∧ itemsP p = some ps ∧ Own L' st'
def Fz (L : Ow) (d : D) (p : P) (L' : Ow) : Prop := ∀ st, Own L st → ∃ st', toP st d = some (p, st') ∧ Own L' st'
section
variable {L L' : Ow} {d : D} {p : P}
theorem fz_fz : Fz L (.fz p) p L := fun st o => ⟨st, rfl, o⟩
theorem fz_c (k : Nat) {n : Nat} {xs : List P} (h : L[k]? = some (n, .lst xs) := by rfl) : Fz L (.cell n) (.lst xs) (L.set k (n, .frz (.lst xs))) := fun st o => ⟨st.set n (.frz (.lst xs)), by unfold toP; dsimp only; rw [o.get k h], o.set h _⟩
theorem src_l [Em α] {xs : List α} (h : Fz L d (em xs) L') : Src L d (xs.map em) L' := fun st o => let ⟨st', h1, h2⟩ := h st o; ⟨_, st', h1, rfl, h2⟩
end
section
variable {L L1 : Ow} {m : Rs γ} {mv : Rs δ} {k : δ → Rs γ} {Q : γ → Fl × Et × Sr → Prop} {X : XP} {η : Et} {f : DE} {t : DT} {x y z : DS} {fa : DA} {i : Nat}
theorem seq_assoc : dSeq (dSeq x y) z = dSeq x (dSeq y z) := by
  funext η st
  unfold dSeq
  cases x η st with
  | ok r =>
    obtain ⟨fl, e, s⟩ := r
    cases fl <;> rfl
  | exc c fs e s => rfl
  | stuck => rfl
theorem seq_skip : dSeq x dSkip = x := by
  funext η st
  unfold dSeq dSkip
  cases x η st with
  | ok r => obtain ⟨fl, e, s⟩ := r; cases fl <;> rfl
  | exc c fs e s => rfl
  | stuck => rfl
theorem ws_assoc (h : Wk L m (dSeq x (dSeq y z) η) Q X) : Wk L m (dSeq (dSeq x y) z η) Q X := by rw [seq_assoc]; exact h
theorem ws_last (h : Wk L m (dSeq x dSkip η) Q X) : Wk L m (x η) Q X := by rw [seq_skip] at h; exact h
theorem ws_skip (h : Wk L m (y η) Q X) : Wk L m (dSeq dSkip y η) Q X := h
theorem ws_end {g : γ} (h : ∀ st, Own L st → Q g (.nx, η, st)) : Wk L (.ok g) (dSkip η) Q X := fun st o => ⟨_, rfl, h st o⟩
theorem w_th {c : Sr → R (β × Sr)} {K : β → Sr → R α} {Q : γ → α → Prop} {e : Sr → R α} (h : Wk L m (th c K) Q X) (he : e = th c K) : Wk L m e Q X := he ▸ h
theorem ws_set {rep : δ → D} {L' : δ → Ow} (V : Wk L mv (f η) (PV rep L') X) (hk : ∀ g, Wk (L' g) (k g) (y (η.set i (some (rep g)))) Q X) : Wk L (mv.bind k) (dSeq (dAsg f (gNm i)) y η) Q X := by
  refine w_th (wv (K := fun d st => y (η.set i (some d)) st) V hk) (funext fun st => ?_)
  unfold dSeq dAsg th
  cases f η st <;> rfl
theorem ws_setN {ct : δ → Ct} {L' : δ → Ow} (V : Wk L mv (f η) (PC ct L') X) (hk : ∀ g n, Wk (L' g ++ [(n, .c (ct g))]) (k g) (y (η.set i (some (.cell n)))) Q X) : Wk L (mv.bind k) (dSeq (dAsg f (gNm i)) y η) Q X := fun st o => by
  have h := V st o
  cases mv with
  | stuck => trivial
  | exc cl fs =>
    obtain ⟨e, st', h1, h2⟩ := h
    exact ⟨e, st', by unfold dSeq dAsg; rw [h1]; rfl, h2⟩
  | ok g =>
    obtain ⟨⟨b, st'⟩, h1, n, h2, h3⟩ := h
    cases h2
    have e : dSeq (dAsg f (gNm i)) y η st = y (η.set i (some (.cell n))) st' := by unfold dSeq dAsg; rw [h1]; rfl
    have := hk g n st' h3
    rw [← e] at this
    exact this
theorem ws_ex {rep : δ → D} {L' : δ → Ow} (V : Wk L mv (f η) (PV rep L') X) (hk : ∀ g, Wk (L' g) (k g) (y η) Q X) : Wk L (mv.bind k) (dSeq (dEx f) y η) Q X := by
  refine w_th (wv (K := fun d st => y η st) V hk) (funext fun st => ?_)
  unfold dSeq dEx th
  cases f η st <;> rfl
theorem ws_ret {mv : Rs γ} {rep : γ → D} {L' : γ → Ow} (V : Wk L mv (f η) (PV rep L') X) (hq : ∀ g st, Own (L' g) st → Q g (.rt (rep g), η, st)) : Wk L mv (dSeq (dRet f) y η) Q X := fun st o => by
  have h := V st o
  cases mv with
  | stuck => trivial
  | exc cl fs =>
    obtain ⟨e, st', h1, h2⟩ := h
    exact ⟨e, st', by unfold dSeq dRet; rw [h1]; rfl, h2⟩
  | ok g =>
    obtain ⟨⟨b, st'⟩, h1, h2, h3⟩ := h
    cases h2
    exact ⟨(.rt (rep g), η, st'), by unfold dSeq dRet; rw [h1]; rfl, hq g st' h3⟩
theorem ws_retK {kr : δ → γ} {rep : δ → D} {L' : δ → Ow} (V : Wk L mv (f η) (PV rep L') X) (hq : ∀ g st, Own (L' g) st → Q (kr g) (.rt (rep g), η, st)) : Wk L (mv.bind fun g => .ok (kr g)) (dSeq (dRet f) y η) Q X := by
  have h := ws_ret (Q := fun g r => Q (kr g) r) (y := y) V hq
  intro st o
  have h := h st o
  cases mv <;> exact h
theorem ws_if {mb : Rs Bool} {ma mz : Rs γ} {L' : Bool → Ow} (V : Wk L mb (t η) (PV id L') X) (ha : Wk (L' true) ma (dSeq x y η) Q X) (hz : Wk (L' false) mz (dSeq z y η) Q X) : Wk L (mb.bind fun b => if b = true then ma else mz) (dSeq (dIf t x z) y η) Q X := by
  refine w_th (wv (K := fun b st => if b = true then dSeq x y η st else dSeq z y η st) V fun b => ?_) (funext fun st => ?_)
  · cases b
    · exact hz
    · exact ha
  · unfold th dSeq dIf
    cases t η st with
    | ok a => obtain ⟨b, s⟩ := a; cases b <;> rfl
    | exc c fs e s => rfl
    | stuck => rfl
theorem ws_ifP {b : Bool} {ma mz : Rs γ} (V : Ev L (t η) b) (ha : b = true → Wk L ma (dSeq x y η) Q X) (hz : b = false → Wk L mz (dSeq z y η) Q X) : Wk L (if b = true then ma else mz) (dSeq (dIf t x z) y η) Q X := fun st o => by
  have e := V st o
  have e2 : dSeq (dIf t x z) y η st = (if b = true then dSeq x y η st else dSeq z y η st) := by
    unfold dSeq dIf
    rw [e, bind_ok]
    cases b <;> rfl
  rw [e2]
  cases b
  · exact hz rfl st o
  · exact ha rfl st o
theorem ws_raiseT {c : Str} (hx : ∀ st, Own L st → X η st) : Wk L (.exc c none) (dSeq (dRaiseT c) y η) Q X := fun st o => ⟨η, st, rfl, hx st o⟩
/-- a, b, .. = f -/
theorem ws_unp {rep : δ → D} {L' : δ → Ow} {gs : List DG} {ps : δ → List P} {η' : δ → Et} (V : Wk L mv (f η) (PV rep L') X) (hp : ∀ g, Pk (L' g) (rep g) (.tup (ps g))) (hb : ∀ g st, bindAll gs (ps g) η st = some (η' g)) (hk : ∀ g, Wk (L' g) (k g) (y (η' g)) Q X) : Wk L (mv.bind k) (dSeq (dAsg f (gTp gs)) y η) Q X := fun st o => by
  have h := V st o
  cases mv with
  | stuck => trivial
  | exc cl fs =>
    obtain ⟨e, st', h1, h2⟩ := h
    exact ⟨e, st', by unfold dSeq dAsg; rw [h1]; rfl, h2⟩
  | ok g =>
    obtain ⟨⟨b, st'⟩, h1, h2, h3⟩ := h
    cases h2
    have e : dSeq (dAsg f (gTp gs)) y η st = y (η' g) st' := by
      unfold dSeq dAsg; rw [h1, bind_ok]
      show ((match gTp gs (rep g) η st' with | some η1 => R.ok (Fl.nx, η1, st') | none => .stuck).bind _) = _
      have : gTp gs (rep g) η st' = some (η' g) := by unfold gTp; rw [hp g st' h3]; exact hb g st'
      rw [this]; rfl
    have := hk g st' h3
    rw [← e] at this
    exact this
theorem ws_append [Em β] {n kp : Nat} {L' L2 : δ → Ow} {rep : δ → D} {v : δ → β} {ys : δ → List β} {kk : δ → List β → Rs γ} {x0 : List P} (V : Wk L mv (f η) (PV rep L') X) (hv : η[i]? = some (some (.cell n))) (h0 : L[kp]? = some (n, .lst x0))
    (hz : ∀ g, Fz (L' g) (rep g) (em (v g)) (L2 g)) (h1 : ∀ g, (L2 g)[kp]? = some (n, .lst ((ys g).map em))) (hk : ∀ g zs, Wk ((L2 g).set kp (n, .lst (zs.map em))) (kk g zs) (y η) Q X) :
    Wk L (mv.bind fun g => (app (ys g) (v g)).bind (kk g)) (dSeq (dEx (dBM isLst appendO (dVar i) (dCons f dNil))) y η) Q X := fun st o => by
  have h := V st o
  have hi : isLst st (.cell n) = true := isLst_at (o.get kp h0)
  have e0 : ∀ r, f η st = r → dSeq (dEx (dBM isLst appendO (dVar i) (dCons f dNil))) y η st = (r.bind fun a => (appendO (.cell n) [a.1] a.2).bind fun b => y η b.2) := fun r hr => by
    unfold dSeq dEx dBM
    rw [e_var hv, bind_ok]
    dsimp only
    rw [if_pos hi]
    unfold dCons dNil
    rw [hr]
    cases r with
    | ok a => dsimp only [bind_ok]; cases appendO (.cell n) [a.1] a.2 <;> rfl
    | exc c fs e s => rfl
    | stuck => rfl
  cases mv with
  | stuck => trivial
  | exc cl fs =>
    obtain ⟨e, st', h1, h2⟩ := h
    exact ⟨e, st', (e0 _ h1), h2⟩
  | ok g =>
    obtain ⟨⟨b, st'⟩, e1, e2, e3⟩ := h
    cases e2
    show (match (app (ys g) (v g)).bind (kk g) with | .ok g => _ | .exc cl fs => _ | .stuck => True)
    unfold app
    by_cases hl : (ys g).length < 16777216
    · rw [if_pos hl, ok_bind]
      obtain ⟨st2, e4, e5⟩ := hz g st' e3
      have e6 : appendO (.cell n) [rep g] st' = .ok (.fz .non, st2.set n (.lst ((ys g ++ [v g]).map em))) := by
        unfold appendO; dsimp only; rw [e4]; dsimp only; rw [e5.get kp (h1 g)]; dsimp only
        rw [if_pos (by rw [List.length_map]; exact hl), List.map_append]; rfl
      have e7 := hk g (ys g ++ [v g]) _ (e5.set (h1 g) (.lst ((ys g ++ [v g]).map em)))
      have e8 := e0 _ e1
      rw [bind_ok] at e8
      dsimp only at e8
      rw [e6, bind_ok] at e8
      rw [← e8] at e7
      exact e7
    · rw [if_neg hl]; trivial
end
/-- behind statements that end normally -/
def QN (E : γ → J → Et) (Lf : γ → J → Ow) : γ → (Fl × Et × Sr) → Prop := fun g r => r.1 = .nx ∧ ∃ j, r.2.1 = E g j ∧ Own (Lf g j) r.2.2
def QB (E : γ → J → Et) (Lf : γ → J → Ow) : γ → (Fl × Et × Sr) → Prop := fun g r => (r.1 = .nx ∨ r.1 = .ct) ∧ ∃ j, r.2.1 = E g j ∧ Own (Lf g j) r.2.2
inductive LC (σ ρ : Type) where
  | nx (s : σ) | bk (s : σ) | rt (r : ρ)
def QC (E : σ → J → Et) (Lf : σ → J → Ow) (Qr : ρ → (Fl × Et × Sr) → Prop) : LC σ ρ → (Fl × Et × Sr) → Prop := fun o r => match o with
  | .nx g => (r.1 = .nx ∨ r.1 = .ct) ∧ ∃ j, r.2.1 = E g j ∧ Own (Lf g j) r.2.2
  | .bk g => r.1 = .bk ∧ ∃ j, r.2.1 = E g j ∧ Own (Lf g j) r.2.2
  | .rt v => Qr v r ∧ ∃ d, r.1 = .rt d
def QL (E : σ → J → Et) (Lf : σ → J → Ow) (Qr : ρ → (Fl × Et × Sr) → Prop) : σ ⊕ ρ → (Fl × Et × Sr) → Prop := fun o r => match o with
  | .inl g => r.1 = .nx ∧ ∃ j, r.2.1 = E g j ∧ Own (Lf g j) r.2.2
  | .inr v => Qr v r ∧ ∃ d, r.1 = .rt d
def foldRs (f : σ → α → Rs σ) : List α → σ → Rs σ
  | [], s => .ok s
  | x :: xs, s => (f s x).bind (foldRs f xs)
def loopRs (f : σ → α → Rs (LC σ ρ)) : List α → σ → Rs (σ ⊕ ρ)
  | [], s => .ok (.inl s)
  | x :: xs, s => (f s x).bind fun r => match r with
    | .nx s' => loopRs f xs s'
    | .bk s' => .ok (.inl s')
    | .rt v => .ok (.inr v)
def Rs.bindL (m : Rs (σ ⊕ ρ)) (k : σ → Rs γ) (kr : ρ → γ) : Rs γ := m.bind fun o => match o with
  | .inl s => k s
  | .inr r => .ok (kr r)
@[simp] theorem bindL_inl (s : σ) (k : σ → Rs γ) (kr : ρ → γ) : (Rs.ok (.inl s)).bindL k kr = k s := rfl
@[simp] theorem bindL_inr (r : ρ) (k : σ → Rs γ) (kr : ρ → γ) : (Rs.ok (.inr r)).bindL k kr = .ok (kr r) := rfl
section
variable {L : Ow} {X : XP} {η : Et} {b x y : DS} {gs : DG} {Q : γ → Fl × Et × Sr → Prop} {mi : Rs σ} {k : σ → Rs γ} {E : σ → J → Et} {Lf : σ → J → Ow}
theorem ws_cut (h1 : Wk L mi (x η) (QN E Lf) X) (h2 : ∀ s j, Wk (Lf s j) (k s) (y (E s j)) Q X) : Wk L (mi.bind k) (dSeq x y η) Q X := fun st o => by
  have h := h1 st o
  cases mi with
  | stuck => trivial
  | exc cl fs =>
    obtain ⟨e, st', h1, h2⟩ := h
    exact ⟨e, st', by unfold dSeq; rw [h1]; rfl, h2⟩
  | ok g =>
    obtain ⟨⟨fl, e, st'⟩, h1, h2', j, h3, h4⟩ := h
    cases h2'; cases h3
    have e : dSeq x y η st = y (E g j) st' := by unfold dSeq; rw [h1]; rfl
    have := h2 g j st' h4
    rw [← e] at this
    exact this
theorem ws_cutL {mi : Rs (σ ⊕ ρ)} {Qr : ρ → Fl × Et × Sr → Prop} {kr : ρ → γ} (h1 : Wk L mi (x η) (QL E Lf Qr) X) (h2 : ∀ s j, Wk (Lf s j) (k s) (y (E s j)) Q X) (h3 : ∀ v r, Qr v r → (∃ d, r.1 = .rt d) → Q (kr v) r) : Wk L (mi.bindL k kr) (dSeq x y η) Q X := fun st o => by
  have h := h1 st o
  cases mi with
  | stuck => trivial
  | exc cl fs =>
    obtain ⟨e, st', h1, h2⟩ := h
    exact ⟨e, st', by unfold dSeq; rw [h1]; rfl, h2⟩
  | ok g =>
    cases g with
    | inl g =>
      obtain ⟨⟨fl, e, st'⟩, h1, h2', j, h3, h4⟩ := h
      cases h2'; cases h3
      have e : dSeq x y η st = y (E g j) st' := by unfold dSeq; rw [h1]; rfl
      have := h2 g j st' h4
      rw [← e] at this
      exact this
    | inr v =>
      obtain ⟨⟨fl, e, st'⟩, h1, h2', d, hd⟩ := h
      have hd' : fl = .rt d := hd
      subst hd'
      exact ⟨(.rt d, e, st'), by unfold dSeq; rw [h1]; rfl, h3 v _ h2' ⟨d, rfl⟩⟩
theorem loopD_at {p : P} {xs : List P} {η1 : Et} {st : Sr} (hg : gs (.fz p) η st = some η1) : loopD gs b (p :: xs) η st = (b η1 st).bind fun r => match r.1 with
      | .nx => loopD gs b xs r.2.1 r.2.2
      | .ct => loopD gs b xs r.2.1 r.2.2
      | .bk => .ok (.nx, r.2.1, r.2.2)
      | .rt d => .ok (.rt d, r.2.1, r.2.2) := by
  conv => lhs; unfold loopD
  rw [hg]
  all_goals rfl
theorem loop_fold {h : α → P} {nb : σ → α → Rs σ} {η1 : σ → J → α → Et} (hg : ∀ s j x st, gs (.fz (h x)) (E s j) st = some (η1 s j x)) (hb : ∀ s j x, Wk (Lf s j) (nb s x) (b (η1 s j x)) (QB E Lf) X) :
    ∀ (xs : List α) (s : σ) (j : J), Wk (Lf s j) (foldRs nb xs s) (loopD gs b (xs.map h) (E s j)) (QN E Lf) X
  | [], s, j => fun st o => ⟨_, rfl, rfl, j, rfl, o⟩
  | x :: xs, s, j => fun st o => by
    have h1 := hb s j x st o
    have e0 : ∀ r, b (η1 s j x) st = r → loopD gs b ((x :: xs).map h) (E s j) st = r.bind fun r => match r.1 with
      | .nx => loopD gs b (xs.map h) r.2.1 r.2.2
      | .ct => loopD gs b (xs.map h) r.2.1 r.2.2
      | .bk => .ok (.nx, r.2.1, r.2.2)
      | .rt d => .ok (.rt d, r.2.1, r.2.2) := fun r hr => by
      rw [List.map_cons, loopD_at (hg s j x st), hr]
    unfold foldRs
    cases hm : nb s x with
    | stuck => trivial
    | exc cl fs =>
      rw [hm] at h1
      obtain ⟨e, st', h2, h3⟩ := h1
      exact ⟨e, st', e0 _ h2, h3⟩
    | ok s' =>
      rw [hm] at h1
      obtain ⟨⟨fl, e, st'⟩, h2, h3, j', h4, h5⟩ := h1
      cases h4
      have h6 := loop_fold hg hb xs s' j' st' h5
      have e1 : loopD gs b ((x :: xs).map h) (E s j) st = loopD gs b (xs.map h) (E s' j') st' := by
        rw [e0 _ h2, bind_ok]
        rcases h3 with h3 | h3 <;> (have h3' : fl = _ := h3; subst h3'; rfl)
      rw [← e1] at h6
      exact h6
theorem loop_lc {h : α → P} {nb : σ → α → Rs (LC σ ρ)} {Qr : ρ → Fl × Et × Sr → Prop} {η1 : σ → J → α → Et} (hg : ∀ s j x st, gs (.fz (h x)) (E s j) st = some (η1 s j x)) (hb : ∀ s j x, Wk (Lf s j) (nb s x) (b (η1 s j x)) (QC E Lf Qr) X) :
    ∀ (xs : List α) (s : σ) (j : J), Wk (Lf s j) (loopRs nb xs s) (loopD gs b (xs.map h) (E s j)) (QL E Lf Qr) X
  | [], s, j => fun st o => ⟨_, rfl, rfl, j, rfl, o⟩
  | x :: xs, s, j => fun st o => by
    have h1 := hb s j x st o
    have e0 : ∀ r, b (η1 s j x) st = r → loopD gs b ((x :: xs).map h) (E s j) st = r.bind fun r => match r.1 with
      | .nx => loopD gs b (xs.map h) r.2.1 r.2.2
      | .ct => loopD gs b (xs.map h) r.2.1 r.2.2
      | .bk => .ok (.nx, r.2.1, r.2.2)
      | .rt d => .ok (.rt d, r.2.1, r.2.2) := fun r hr => by
      rw [List.map_cons, loopD_at (hg s j x st), hr]
    unfold loopRs
    cases hm : nb s x with
    | stuck => trivial
    | exc cl fs =>
      rw [hm] at h1
      obtain ⟨e, st', h2, h3⟩ := h1
      exact ⟨e, st', e0 _ h2, h3⟩
    | ok o =>
      rw [hm] at h1
      cases o with
      | nx s' =>
        obtain ⟨⟨fl, e, st'⟩, h2, h3, j', h4, h5⟩ := h1
        cases h4
        have h6 := loop_lc hg hb xs s' j' st' h5
        have e1 : loopD gs b ((x :: xs).map h) (E s j) st = loopD gs b (xs.map h) (E s' j') st' := by
          rw [e0 _ h2, bind_ok]
          rcases h3 with h3 | h3 <;> (have h3' : fl = _ := h3; subst h3'; rfl)
        rw [← e1] at h6
        exact h6
      | bk s' =>
        obtain ⟨⟨fl, e, st'⟩, h2, h3, j', h4, h5⟩ := h1
        have h3' : fl = .bk := h3
        subst h3'
        exact ⟨_, e0 _ h2, rfl, j', h4, h5⟩
      | rt v =>
        obtain ⟨⟨fl, e, st'⟩, h2, h3, d, h4⟩ := h1
        have h4' : fl = .rt d := h4
        subst h4'
        exact ⟨_, e0 _ h2, h3, d, rfl⟩
end
section
variable {L : Ow} {X : XP} {η : Et} {b : DS} {gs : DG} {f : DE} {fa : DA} {Q : γ → Fl × Et × Sr → Prop} {mv : Rs δ} {mb : δ → Rs γ} {m : Rs γ}
theorem w_for {h : α → P} {rep : δ → D} {L1 L2 : δ → Ow} {it : δ → List α} (V : Wk L mv (f η) (PV rep L1) X) (S : ∀ g, Src (L1 g) (rep g) ((it g).map h) (L2 g)) (B : ∀ g, Wk (L2 g) (mb g) (loopD gs b ((it g).map h) η) Q X) : Wk L (mv.bind mb) (dForL f gs b η) Q X := by
  refine w_th (wv (K := fun d st => match toP st d with
    | some (p, st') => match itemsP p with
      | some xs => loopD gs b xs η st'
      | none => .stuck
    | none => .stuck) V fun g => ?_) rfl
  intro st o
  obtain ⟨p, st', h1, h2, h3⟩ := S g st o
  dsimp only
  rw [h1]; dsimp only; rw [h2]
  exact B g st' h3
theorem w_forP {h : α → P} {L2 : Ow} {d : D} {it : List α} (V : Ev L (f η) d) (S : Src L d (it.map h) L2) (B : Wk L2 m (loopD gs b (it.map h) η) Q X) : Wk L m (dForL f gs b η) Q X := by
  have := w_for (mv := Rs.ok ()) (rep := fun _ => d) (mb := fun _ => m) (it := fun _ => it) (w_ev V) (fun _ => S) (fun _ => B)
  exact this
theorem w_forR1 {L1 : δ → Ow} {j : δ → Int} {mb : δ → List Int → Rs γ} (V : Wk L mv (fa η) (PV (fun g => [fe (j g)]) L1) X) (B : ∀ g xs, Wk (L1 g) (mb g xs) (loopD gs b (xs.map em) η) Q X) : Wk L (mv.bind fun g => (rng1 (j g)).bind (mb g)) (dForR1 fa gs b η) Q X := by
  refine w_th (wv (K := fun ds st => match ds with
    | [.fz (.int j)] => if -(2 ^ 62) ≤ j ∧ j < 2 ^ 62 then loopD gs b (rangeP 0 j.toNat) η st else .stuck
    | _ => .stuck) V fun g => ?_) rfl
  unfold rng1
  by_cases hb : smallI 1000000000 (j g) = true
  · rw [if_pos hb, ok_bind]
    refine (B g (rng 0 (j g).toNat)).eqc (funext fun st => ?_)
    rw [← rng_map]
    exact if_pos (small62 hb)
  · rw [if_neg hb]; exact w_stuck
end
abbrev XT : XP := fun _ _ => True
end N
end
section
set_option Elab.async false
set_option linter.all false
set_option maxRecDepth 100000
set_option maxHeartbeats 0
namespace N
open PySem L2 M
variable {α β γ δ σ ρ τ κ J : Type}
/-- a def of frozen arguments -/
structure Sp0 [Em τ] (m : Rs τ) (F : DF) (ps : List P) : Prop where
  h : match m with
  | .ok t => F (ps.map D.fz) [] = .ok (.fz (em t), [])
  | .exc c fs => F (ps.map D.fz) [] = .exc c fs [] []
  | .stuck => True
/-- a def of which one argument is a cell -/
structure Sp1 [Em τ] (cc : κ → Ct) (m : Rs (τ × κ)) (F : DF) (as bs : List P) (c0 : Ct) : Prop where
  h : match m with
  | .ok g => F (as.map D.fz ++ .cell 0 :: bs.map D.fz) [c0] = .ok (.fz (em g.1), [cc g.2])
  | .exc _ _ => False
  | .stuck => True
def QF0 [Em τ] : τ → Fl × Et × Sr → Prop := fun t r => ∃ d, (r.1 = .rt d ∨ (r.1 = .nx ∧ d = .fz .non)) ∧ ∃ st2, toP r.2.2 d = some (em t, st2)
def QF1 [Em τ] (cc : κ → Ct) : τ × κ → Fl × Et × Sr → Prop := fun g r => ∃ d, (r.1 = .rt d ∨ (r.1 = .nx ∧ d = .fz .non)) ∧ d ≠ .cell 0 ∧ ∃ st2, toP r.2.2 d = some (em g.1, st2) ∧ st2[0]? = some (cc g.2)
abbrev X0 : XP := fun _ _ => False
theorem endF0 {d : D} {fl : Fl} {η : Et} {st st2 : Sr} {p : P} (h : fl = .rt d ∨ (fl = .nx ∧ d = .fz .non)) (h2 : toP st d = some (p, st2)) : endF true 0 (.ok (fl, η, st)) = .ok (.fz p, []) := by
  have e : exitF true 0 d st = .ok (.fz p, []) := by
    show (match frzTop 0 st d with | some (d1, st1) => exitI 0 d1 st1 | none => .stuck) = _
    have e2 : frzTop 0 st d = some (.fz p, st2) := by
      cases d with
      | fz q => unfold toP at h2; cases h2; rfl
      | cell k =>
        show (if k < 0 then some (D.cell k, st) else Option.map (fun r => (D.fz r.fst, r.snd)) (toP st (D.cell k))) = _
        rw [if_neg (Nat.not_lt_zero _), h2]; rfl
    rw [e2]
    exact exit0 (p := p) (st := st2)
  rcases h with h | ⟨h, h'⟩
  · subst h; exact e
  · subst h; subst h'; exact e
theorem endF1 {d : D} {fl : Fl} {η : Et} {st st2 : Sr} {p : P} {c : Ct} (h : fl = .rt d ∨ (fl = .nx ∧ d = .fz .non)) (hd : d ≠ .cell 0) (h2 : toP st d = some (p, st2)) (h3 : st2[0]? = some c) (hc : plainC c = true) : endF true 1 (.ok (fl, η, st)) = .ok (.fz p, [c]) := by
  have e : exitF true 1 d st = .ok (.fz p, [c]) := by
    show (match frzTop 1 st d with | some (d1, st1) => exitI 1 d1 st1 | none => .stuck) = _
    have e2 : frzTop 1 st d = some (.fz p, st2) := by
      cases d with
      | fz q => unfold toP at h2; cases h2; rfl
      | cell k =>
        show (if k < 1 then some (D.cell k, st) else Option.map (fun r => (D.fz r.fst, r.snd)) (toP st (D.cell k))) = _
        have : ¬ k < 1 := fun hk => hd (by have : k = 0 := by omega
                                           rw [this])
        rw [if_neg this, h2]; rfl
    rw [e2]
    exact exit1 (p := p) (st := st2) h3 hc
  rcases h with h | ⟨h, h'⟩
  · subst h; exact e
  · subst h; subst h'; exact e
theorem sp0_of [Em τ] {m : Rs τ} {b : DS} {np n : Nat} {ps : List P} (hl : ps.length = np) (η0 : Et) (hη : (ps.map D.fz).map some ++ List.replicate (n - np) none = η0) (h : Wk [] m (b η0) QF0 XT) : Sp0 m (runF np n true b) ps := by
  have h := h [] (Own.nil _)
  have e : runF np n true b (ps.map D.fz) [] = endF true 0 (b η0 []) := by
    unfold runF; rw [if_pos (by rw [List.length_map]; exact hl), hη]; rfl
  refine ⟨?_⟩
  cases m with
  | stuck => trivial
  | exc c fs =>
    obtain ⟨e1, st', h1, _⟩ := h
    show runF np n true b (ps.map D.fz) [] = _
    rw [e, h1]
    show exitX 0 c fs st' = _
    unfold exitX
    rw [show exitI 0 (.fz .non) st' = .ok (.fz .non, []) from exit0 (p := .non) (st := st')]
  | ok t =>
    obtain ⟨⟨fl, e1, st'⟩, h1, d, h2, st2, h3⟩ := h
    show runF np n true b (ps.map D.fz) [] = _
    rw [e, h1]
    exact endF0 h2 h3
theorem sp1_of [Em τ] {cc : κ → Ct} {m : Rs (τ × κ)} {b : DS} {np n : Nat} {as bs : List P} {c0 : Ct} (hc : ∀ s, plainC (cc s) = true) (hl : as.length + 1 + bs.length = np) (η0 : Et) (hη : (as.map D.fz ++ .cell 0 :: bs.map D.fz).map some ++ List.replicate (n - np) none = η0) (h : Wk [(0, .c c0)] m (b η0) (QF1 cc) X0) : Sp1 cc m (runF np n true b) as bs c0 := by
  have h := h [c0] (Own.one c0)
  have e : runF np n true b (as.map D.fz ++ .cell 0 :: bs.map D.fz) [c0] = endF true 1 (b η0 [c0]) := by
    unfold runF; rw [if_pos (by simp; omega), hη]; rfl
  refine ⟨?_⟩
  cases m with
  | stuck => trivial
  | exc c fs => obtain ⟨e1, st', h1, h2⟩ := h; exact h2
  | ok g =>
    obtain ⟨⟨fl, e1, st'⟩, h1, d, h2, hd, st2, h3, h4⟩ := h
    show runF np n true b _ _ = _
    rw [e, h1]
    exact endF1 h2 hd h3 h4 (hc _)
section
variable {L L' : Ow} {d : D} {η : Et} {st : Sr}
theorem qf0 [Em τ] {t : τ} (hz : Fz L d (em t) L') (o : Own L st) : QF0 t (.rt d, η, st) := let ⟨st2, h, _⟩ := hz st o; ⟨d, .inl rfl, st2, h⟩
theorem qf1 [Em τ] {cc : κ → Ct} {t : τ} {s : κ} {p : P} (k : Nat) (hz : p = em t) (o : Own L st) (h0 : L[k]? = some (0, .c (cc s)) := by rfl) : QF1 cc (t, s) (.rt (.fz p), η, st) := ⟨_, .inl rfl, (by intro h; cases h), st, by subst hz; rfl, o.get k h0⟩
theorem qf1c [Em τ] {cc : κ → Ct} {t : τ} {s : κ} {n : Nat} {xs : List P} (k j : Nat) (hz : .lst xs = em t) (o : Own L st) (h0 : L[k]? = some (0, .c (cc s)) := by rfl) (h1 : L[j]? = some (n, .lst xs) := by rfl) (hkj : k ≠ j := by decide) : QF1 cc (t, s) (.rt (.cell n), η, st) := by
  have hn : n ≠ 0 := fun e => hkj (o.ne h0 h1 e.symm)
  refine ⟨_, .inl rfl, (by intro h; cases h; exact hn rfl), st.set n (.frz (.lst xs)), ?_, ?_⟩
  · unfold toP; dsimp only; rw [o.get j h1, ← hz]
  · rw [List.getElem?_set_ne hn]; exact o.get k h0
end
section
variable {L : Ow} {X : XP} {η : Et} {F : DF}
theorem w_call0 [Em τ] {m : Rs τ} {ps : List P} {ds : List D} (h : Sp0 m F ps) (hd : ds = ps.map D.fz) (hx : ∀ st, Own L st → X η st) : Wk L m (fun st => callF F ds η st) (PV fe fun _ => L) X := fun st o => by
  subst hd
  have h := h.h
  cases m with
  | stuck => trivial
  | exc c fs => exact ⟨η, st, callF_exc h, hx st o⟩
  | ok t => exact ⟨(fe t, st), callF_fz h, rfl, o⟩
theorem w_call1 [Em τ] {cc : κ → Ct} {m : Rs (τ × κ)} {as bs : List P} {c0 : Ct} {ds : List D} {n : Nat} (k : Nat) (h : Sp1 cc m F as bs c0) (hd : ds = as.map D.fz ++ .cell n :: bs.map D.fz) (h0 : L[k]? = some (n, .c c0)) (hc0 : plainC c0 = true) (hc : ∀ s, plainC (cc s) = true) : Wk L m (fun st => callF F ds η st) (PV (fun g => fe g.1) fun g => L.set k (n, .c (cc g.2))) X := fun st o => by
  subst hd
  have h := h.h
  cases m with
  | stuck => trivial
  | exc c fs => exact h.elim
  | ok g => exact ⟨(fe g.1, st.set n (cc g.2)), callF_c (o.get k h0) hc0 (hc _) h, rfl, o.set h0 _⟩
theorem w_ok {β : Type} {c : Sr → R (β × Sr)} {rep : γ → β} {L' : γ → Ow} {t : γ} (h : Ev L c (rep t)) (ho : ∀ st, Own L st → Own (L' t) st) : Wk L (.ok t) c (PV rep L') X := fun st o => ⟨_, h st o, rfl, ho st o⟩
theorem w_okN {c : Sr → R (D × Sr)} {ct : γ → Ct} {L' : γ → Ow} {t : γ} (h : ∀ st, Own L st → c st = .ok (.cell st.length, st ++ [ct t])) (ho : ∀ st, Own L st → Own (L' t) st) : Wk L (.ok t) c (PC ct L') X := fun st o => ⟨_, h st o, st.length, rfl, (ho st o).new _⟩
theorem w_newL [Em α] {xs : List α} {f : DA} {ds : List D} (h : Ev L (f η) ds) (hd : ds = (xs.map em).map D.fz := by rfl) (hl : xs.length ≤ 16777216 := by exact Nat.le_of_ble_eq_true rfl) : Wk L (.ok xs) (dAp lstO f η) (PC (fun xs : List α => Ct.lst (xs.map em)) fun _ => L) X := w_okN (fun st o => by
  refine e_ap (h st o) ?_
  subst hd
  unfold lstO; rw [toPs_fz]; exact if_pos (by rw [List.length_map]; exact hl)) fun _ h => h
theorem w_listO [Em α] {xs : List α} {d : D} (h : Pk L d (em xs)) : Wk L (.ok xs) (listO [d]) (PC (fun xs : List α => Ct.lst (xs.map em)) fun _ => L) X := w_okN (fun st o => by
  unfold listO; dsimp only; rw [h st o]; rfl) fun _ h => h
theorem w_listOT [Em α] {xs : Tu α} {d : D} (h : Pk L d (em xs)) : Wk L (.ok xs.l) (listO [d]) (PC (fun xs : List α => Ct.lst (xs.map em)) fun _ => L) X := w_okN (fun st o => by
  unfold listO; dsimp only; rw [h st o]; rfl) fun _ h => h
theorem w_newD : Wk L (.ok ([] : List (Key × P))) (dNewD η) (PC (fun xs : List (Key × P) => Ct.dct xs) fun _ => L) X := w_okN (fun st o => rfl) fun _ h => h
end
def tryRs (m : Rs γ) (h : Str → Option (List (Str × P)) → Rs γ) : Rs γ := match m with
  | .ok g => .ok g
  | .exc c fs => h c fs
  | .stuck => .stuck
@[simp] theorem tryRs_ok (g : γ) (h : Str → Option (List (Str × P)) → Rs γ) : tryRs (.ok g) h = .ok g := rfl
@[simp] theorem tryRs_exc (c : Str) (fs : Option (List (Str × P))) (h : Str → Option (List (Str × P)) → Rs γ) : tryRs (.exc c fs) h = h c fs := rfl
/-- one clause, and what comes behind it -/
def hdRs (tab : List (Str × Bool)) (m r : Str → Option (List (Str × P)) → Rs γ) (c : Str) (fs : Option (List (Str × P))) : Rs γ := match look1 c tab with
  | some true => calm (m c fs)
  | some false => r c fs
  | none => .stuck
def excRs (c : Str) (fs : Option (List (Str × P))) : Rs γ := .exc c fs
def xfM (cs : List Str) (f c : Str) (fs : Option (List (Str × P))) : Rs P := if cs.contains c = true then match fs with
    | some l => match l.lookup f with
      | some p => .ok p
      | none => .stuck
    | none => .stuck
  else .stuck
def xiM (tab : List (Str × Bool)) (c : Str) : Rs Bool := match look1 c tab with
  | some b => .ok b
  | none => .stuck
section
variable {L L2 : Ow} {X : XP} {η : Et} {b : DS} {Q : γ → Fl × Et × Sr → Prop} {m : Rs γ} {mh : Str → Option (List (Str × P)) → Rs γ} {hs : List DHd} {E : J → Et} {Lx : J → Ow}
/-- an exception's configuration -/
def XE (E : J → Et) (Lx : J → Ow) : XP := fun η st => ∃ j, η = E j ∧ Own (Lx j) st
theorem w_tryM (h1 : Wk L m (b η) Q (XE E Lx)) (h2 : ∀ j c fs, Wk (Lx j) (mh c fs) (fun st => dHds c fs (E j) st hs) Q X) : Wk L (tryRs m mh) (dTryM b hs η) Q X := fun st o => by
  have h := h1 st o
  cases m with
  | stuck => trivial
  | ok g =>
    obtain ⟨a, h3, h4⟩ := h
    exact ⟨a, by unfold dTryM; rw [h3], h4⟩
  | exc c fs =>
    obtain ⟨e, st', h3, j, h4, h5⟩ := h
    subst h4
    have e2 : dTryM b hs η st = dHds c fs (E j) st' hs := by unfold dTryM; rw [h3]
    have : (match mh c fs with | .ok g => ∃ a, dHds c fs (E j) st' hs = .ok a ∧ Q g a | .exc cl f2 => ∃ e s, dHds c fs (E j) st' hs = .exc cl f2 e s ∧ X e s | .stuck => True) := h2 j c fs st' h5
    rw [← e2] at this
    exact this
theorem wh_nil {c : Str} {fs : Option (List (Str × P))} (hx : ∀ st, Own L st → X η st) : Wk L (excRs c fs) (fun st => dHds c fs η st []) Q X := fun st o => ⟨η, st, rfl, hx st o⟩
theorem wh_as {c : Str} {fs : Option (List (Str × P))} {tab : List (Str × Bool)} {i : Nat} {su : Str → Option (List (Str × P)) → DS} {m1 r : Str → Option (List (Str × P)) → Rs γ} (hi : i < η.length) (h1 : Wk L (m1 c fs) (su c fs (η.set i none)) (fun g a => Q g (a.1, a.2.1.set i none, a.2.2)) XT) (h2 : Wk L (r c fs) (fun st => dHds c fs η st hs) Q X) : Wk L (hdRs tab m1 r c fs) (fun st => dHds c fs η st ((tab, some i, su) :: hs)) Q X := fun st o => by
  unfold hdRs
  show (match (match look1 c tab with | some true => calm (m1 c fs) | some false => r c fs | none => .stuck) with | .ok g => ∃ a, (match look1 c tab with | some true => (if i < η.length then fromSuite i (su c fs (η.set i none) st) else .stuck) | some false => dHds c fs η st hs | none => .stuck) = R.ok a ∧ Q g a | .exc cl f2 => ∃ e s, (match look1 c tab with | some true => (if i < η.length then fromSuite i (su c fs (η.set i none) st) else .stuck) | some false => dHds c fs η st hs | none => .stuck) = R.exc cl f2 e s ∧ X e s | .stuck => True)
  cases look1 c tab with
  | none => trivial
  | some bb =>
    cases bb
    · exact h2 st o
    · have h := h1 st o
      dsimp only
      cases e : m1 c fs with
      | stuck => trivial
      | exc _ _ => trivial
      | ok g =>
        rw [e] at h
        obtain ⟨⟨fl, e', s'⟩, h3, h4⟩ := h
        exact ⟨_, by rw [if_pos hi, h3]; rfl, h4⟩
theorem ev_xf {cs : List Str} {f c : Str} {fs : Option (List (Str × P))} : Wk L (xfM cs f c fs) (dXf cs f c fs η) (PV (fun p => .fz p) fun _ => L) X := fun st o => by
  unfold xfM dXf
  by_cases h : cs.contains c = true
  · rw [if_pos h, if_pos h]
    cases fs with
    | none => trivial
    | some l =>
      dsimp only
      cases l.lookup f with
      | none => trivial
      | some p => exact ⟨_, rfl, rfl, o⟩
  · rw [if_neg h]; trivial
theorem ev_xi {tab : List (Str × Bool)} {c : Str} : Wk L (xiM tab c) (dXi tab c η) (PV fe fun _ => L) X := fun st o => by
  unfold xiM dXi
  cases look1 c tab with
  | none => trivial
  | some b => exact ⟨_, rfl, rfl, o⟩
end
end N
end
section
set_option Elab.async false
set_option linter.all false
set_option maxRecDepth 100000
set_option maxHeartbeats 0
namespace N
open PySem L2 M
variable {α β γ δ σ ρ τ κ J : Type}
section
variable {L L1 : Ow} {m : Rs γ} {mv : Rs δ} {Q : γ → Fl × Et × Sr → Prop} {X : XP} {η : Et} {f : DE} {t : DT} {x y z : DS} {fa ga : DA} {i : Nat}
theorem w_withS {s : κ} {m : Rs δ} {c : Sr → R (D × Sr)} {rep : δ → D} {L' : κ → Ow} (h : Wk L m c (PV rep fun _ => L) X) (ho : ∀ st, Own L st → Own (L' s) st) : Wk L (m.bind fun v => .ok (v, s)) c (PV (fun g => rep g.1) fun g => L' g.2) X := fun st o => by
  have h := h st o
  cases m with
  | stuck => trivial
  | exc c fs => exact h
  | ok v =>
    obtain ⟨⟨d, st'⟩, h1, h2, h3⟩ := h
    exact ⟨_, h1, h2, ho _ h3⟩
theorem ws_ifG {mb : Rs δ} {bv : δ → Bool} {ma mz : δ → Rs γ} {L' : δ → Ow} (V : Wk L mb (t η) (PV bv L') X) (ha : ∀ g, Wk (L' g) (ma g) (dSeq x y η) Q X) (hz : ∀ g, Wk (L' g) (mz g) (dSeq z y η) Q X) : Wk L (mb.bind fun g => if bv g = true then ma g else mz g) (dSeq (dIf t x z) y η) Q X := by
  refine w_th (wv (K := fun b st => if b = true then dSeq x y η st else dSeq z y η st) V fun g => ?_) (funext fun st => ?_)
  · cases bv g
    · exact hz g
    · exact ha g
  · unfold th dSeq dIf
    cases t η st with
    | ok a => obtain ⟨b, s⟩ := a; cases b <;> rfl
    | exc c fs e s => rfl
    | stuck => rfl
theorem ws_ret0 {g : γ} {d : D} (V : Ev L (f η) d) (hq : ∀ st, Own L st → Q g (.rt d, η, st)) : Wk L (.ok g) (dSeq (dRet f) y η) Q X := fun st o => ⟨(.rt d, η, st), by unfold dSeq dRet; rw [V st o]; rfl, hq st o⟩
theorem w_unwE [Em α] {o : Option α} {c : Sr → R (D × Sr)} (h : Ev L c (fe o)) : Wk L (unw o) c (PV fe fun _ => L) X := fun st w => by
  cases o with
  | none => trivial
  | some a => exact ⟨(fe a, st), h st w, rfl, w⟩
end
structure Rol where
  l : List Int
instance : Em Rol := ⟨fun r => .rol (r.l.map em)⟩
section
variable {L : Ow} {X : XP} {η : Et} {f : DE} {fa : DA} {gs : DG} {b y : DS}
theorem w_forR1P {j : Int} {mb : List Int → Rs γ} {e : DE} {Q : γ → Fl × Et × Sr → Prop} (V : Ev L (e η) (fe j)) (B : ∀ xs, Wk L (mb xs) (loopD gs b (xs.map em) η) Q X) : Wk L ((rng1 j).bind mb) (dForR1 (dCons e dNil) gs b η) Q X :=
  w_forR1 (mv := Rs.ok ()) (j := fun _ => j) (mb := fun _ => mb) (w_ev (ev_cons V ev_nil)) fun _ => B
end
structure SpN (ct : τ → Ct) (m : Rs τ) (F : DF) (ps : List P) : Prop where
  h : match m with
  | .ok t => F (ps.map D.fz) [] = .ok (.cell 0, [ct t])
  | .exc c fs => F (ps.map D.fz) [] = .exc c fs [] []
  | .stuck => True
theorem w_callN {L : Ow} {X : XP} {η : Et} {F : DF} {ct : τ → Ct} (hc : ∀ t, plainC (ct t) = true) {m : Rs τ} {ps : List P} {ds : List D} (h : SpN ct m F ps) (hd : ds = ps.map D.fz) (hx : ∀ st, Own L st → X η st) : Wk L m (fun st => callF F ds η st) (PC ct fun _ => L) X := fun st o => by
  subst hd
  have h := h.h
  cases m with
  | stuck => trivial
  | exc c fs => exact ⟨η, st, callF_exc h, hx st o⟩
  | ok t => exact ⟨(.cell st.length, st ++ [ct t]), callF_new h (hc _), st.length, rfl, o.new _⟩
end N
end
section
set_option Elab.async false
set_option linter.all false
set_option maxRecDepth 100000
set_option maxHeartbeats 0
namespace N
open PySem L2 M
inductive Ent where
  | i (v : Int) | h (t : T2 Int Int)
  deriving DecidableEq
instance : Em Ent := ⟨fun e => match e with
  | .i v => .int v
  | .h t => em t⟩
instance : NoN Ent := ⟨fun e => by cases e <;> exact ⟨rfl, rfl, rfl⟩⟩
instance : EmE Ent := ⟨fun a b => by
    cases a with
    | i v => cases b with
      | i u => exact (EmE.eqe v u).trans (by simp)
      | h t => exact (show false = _ by simp)
    | h s => cases b with
      | i u => exact (show false = _ by simp)
      | h t => exact (EmE.eqe s t).trans (by simp), fun a => by
    cases a with
    | i v => rfl
    | h t => exact EmE.can t, 1, fun a => by
    cases a with
    | i v => exact Nat.zero_le _
    | h t => exact EmE.dle t⟩
def Ent.len (e : Ent) : Rs Int := match e with
  | .i _ => .stuck
  | .h _ => .ok 2
variable {α β γ δ σ ρ τ κ : Type}
section
variable {m : Rs γ} {Q : γ → Fl × Et × Sr → Prop} {L : Ow} {X : XP} {η : Et} {f : DE} {y : DS} {d e : D} {i j : Int}
/-- what isinstance says of a datum -/
def isiB (T : String) (p : P) : Option Bool := (tyP p).bind fun t => kitB t T
theorem ev_isi {T : String} {p : P} {b : Bool} (h : Pk L d p) (hb : isiB T p = some b) : Ev L (isiO T d) (fe b) := fun st o => by
  unfold isiO isiB at *
  rw [h st o]
  obtain ⟨t, e1, e2⟩ := Option.bind_eq_some_iff.mp hb
  rw [show (some p).bind tyP = some t from e1]
  dsimp only
  rw [e2]; rfl
def Fzs (L : Ow) (ds : List D) (ps : List P) (L' : Ow) : Prop := ∀ st, Own L st → ∃ st', toPs st ds = some (ps, st') ∧ Own L' st'
theorem fzs_nil : Fzs L [] [] L := fun st o => ⟨st, rfl, o⟩
theorem fzs_c {p : P} {ds : List D} {ps : List P} {L1 L' : Ow} (h : Fz L d p L1) (r : Fzs L1 ds ps L') : Fzs L (d :: ds) (p :: ps) L' := fun st o => by
  obtain ⟨s1, e1, o1⟩ := h st o
  obtain ⟨s2, e2, o2⟩ := r s1 o1
  exact ⟨s2, by unfold toPs; rw [e1]; dsimp only; rw [e2], o2⟩
theorem fzs_fz {p : P} {ds : List D} {ps : List P} {L' : Ow} (r : Fzs L ds ps L') : Fzs L (.fz p :: ds) (p :: ps) L' := fzs_c (fun st o => ⟨st, rfl, o⟩) r
theorem w_tupc [Em γ] {fa : DA} {ds : List D} {ps : List P} {t : γ} {L' : Ow} (h : Ev L (fa η) ds) (hz : Fzs L ds ps L') (he : P.tup ps = em t) (hl : ps.length ≤ 16777216 := by exact Nat.le_of_ble_eq_true rfl) : Wk L (.ok t) (dAp tupO fa η) (PV fe fun _ => L') X := fun st o => by
  obtain ⟨st', e1, o'⟩ := hz st o
  refine ⟨(fe t, st'), ?_, rfl, o'⟩
  have : tupO ds st = .ok (fe t, st') := by
    unfold tupO
    rw [e1]
    show (if ps.length ≤ szL then R.ok (D.fz (.tup ps), st') else .stuck) = _
    rw [if_pos hl, he]
  unfold dAp
  rw [h st o]
  exact this
section
variable {t u : DT}
theorem w_andS {m1 : Rs δ} {bv : δ → Bool} {L' : δ → Ow} {k : δ → Rs γ} {ff : δ → γ} {Q : γ → Bool × Sr → Prop} (h : Wk L m1 (t η) (PV bv L') X) (hf : ∀ g st, Own (L' g) st → Q (ff g) (false, st)) (hk : ∀ g, Wk (L' g) (k g) (u η) Q X) : Wk L (m1.bind fun g => if bv g = true then k g else .ok (ff g)) (dAnd t u η) Q X := by
  refine w_th (wv (K := fun b st => if b = true then u η st else .ok (false, st)) h fun g => ?_) rfl
  by_cases hb : bv g = true
  · rw [if_pos hb]
    intro st o
    have := hk g st o
    rw [hb]; exact this
  · rw [if_neg hb]
    intro st o
    have e : bv g = false := by simpa using hb
    rw [e]
    exact ⟨(false, st), rfl, hf g st o⟩
theorem w_orS {m1 : Rs δ} {bv : δ → Bool} {L' : δ → Ow} {k : δ → Rs γ} {ff : δ → γ} {Q : γ → Bool × Sr → Prop} (h : Wk L m1 (t η) (PV bv L') X) (hf : ∀ g st, Own (L' g) st → Q (ff g) (true, st)) (hk : ∀ g, Wk (L' g) (k g) (u η) Q X) : Wk L (m1.bind fun g => if bv g = true then .ok (ff g) else k g) (dOr t u η) Q X := by
  refine w_th (wv (K := fun b st => if b = true then .ok (true, st) else u η st) h fun g => ?_) rfl
  by_cases hb : bv g = true
  · rw [if_pos hb]
    intro st o
    rw [hb]
    exact ⟨(true, st), rfl, hf g st o⟩
  · rw [if_neg hb]
    intro st o
    have := hk g st o
    have e : bv g = false := by simpa using hb
    rw [e]; exact this
end
def Ent.int (e : Ent) : Rs Int := match e with
  | .i v => .ok v
  | .h _ => .stuck
end
end N
end
section
set_option Elab.async false
set_option linter.all false
set_option maxRecDepth 100000
set_option maxHeartbeats 0
namespace G
open PySem L2 M N
def n_l_draw (s : List Int) (n : Int) : Rs (Int × List Int) := if 0 < n then .ok (drawV s n, drawS s) else .stuck
theorem sp_l_draw (s : List Int) (n : Int) : Sp1 (fun s : List Int => Ct.lst (List.map em s)) (n_l_draw s n) F_l_draw [] [em (n : Int)] (.lst (List.map em s)) := by
  refine ⟨?_⟩
  unfold n_l_draw
  by_cases h : 0 < n
  · rw [if_pos h]; exact draw_eq s h
  · rw [if_neg h]; trivial
noncomputable def streamOf (ns : List Int) : List Int := Classical.choose (stream_ex ns)
noncomputable def n_l_stream (r : Rol) : Rs (List Int) := .ok (streamOf r.l)
theorem spn_l_stream (r : Rol) : SpN (fun t : List Int => Ct.lst (List.map em t)) (n_l_stream r) F_l_stream [em (r : Rol)] := ⟨Classical.choose_spec (stream_ex r.l)⟩
end G
end
section
set_option Elab.async false
set_option linter.all false
set_option maxRecDepth 100000
set_option maxHeartbeats 0
namespace N
open PySem L2 M
variable {α β γ δ σ ρ τ κ J : Type}
section
variable {L : Ow} {X : XP} {η : Et} {b : DS} {gs : DG} {f : DE} {Q : γ → Fl × Et × Sr → Prop} {m : Rs γ}
def isiM (T : String) (p : P) : Rs Bool := match isiB T p with
  | some b => .ok b
  | none => .stuck
theorem w_isi {T : String} {d : D} {p : P} (h : Pk L d p) : Wk L (isiM T p) (isiO T d) (PV fe fun _ => L) X := by
  unfold isiM
  cases e : isiB T p with
  | none => exact w_stuck
  | some b => exact w_ev (rep := fe) (ev_isi h e)
end
end N
end
section
set_option Elab.async false
set_option linter.all false
set_option maxRecDepth 100000
set_option maxHeartbeats 0
namespace N
open PySem L2 M
variable {α β γ δ σ ρ τ κ J : Type}
def popN (xs : List α) (i : Int) : Rs (α × List α) := match seqIndex? i xs.length with
  | some k => (match xs[k]? with
    | some a => if -(2 ^ 63) ≤ i ∧ i < 2 ^ 63 then .ok (a, xs.eraseIdx k) else .stuck
    | none => .stuck)
  | none => .stuck
end N
end
section
set_option Elab.async false
set_option linter.all false
set_option maxRecDepth 100000
set_option maxHeartbeats 0
namespace N
open PySem L2 M
variable {α β γ δ σ ρ τ κ J : Type}
section
variable {L : Ow} {X : XP} {η : Et} {f : DE} {y : DS} {i j : Nat} {Q : γ → Fl × Et × Sr → Prop} {mv : Rs δ}
theorem erase_map {α β : Type} (g : α → β) : ∀ (l : List α) (k : Nat), (l.map g).eraseIdx k = (l.eraseIdx k).map g
  | [], _ => rfl
  | x :: l, 0 => rfl
  | x :: l, k + 1 => by
    show g x :: (l.map g).eraseIdx k = g x :: (l.eraseIdx k).map g
    rw [erase_map g l k]
end
end N
end
section
set_option Elab.async false
set_option linter.all false
set_option maxRecDepth 100000
set_option maxHeartbeats 0
namespace N
open PySem L2 M
variable {α β γ δ : Type}
section
variable {L : Ow} {X : XP} {η : Et} {m : Rs γ} {fa : DA} {y : DS} {Q : γ → Fl × Et × Sr → Prop}
def strsP : List P → Option (List Str)
  | [] => some []
  | .str s :: ps => (match strsP ps with
    | some l => some (s :: l)
    | none => none)
  | _ :: _ => none
end
end N
end
section
set_option Elab.async false
set_option linter.all false
set_option maxRecDepth 100000
set_option maxHeartbeats 0
namespace N
open PySem L2 M
variable {α β γ δ σ : Type}
section
variable {L : Ow} {X : XP} {η : Et} {d e : D}
theorem w_popK [Em α] {n kp i : Nat} {xs : List α} {z : Int} {f : DE} {L' : α × List α → Ow} (hf : Ev L (f η) (fe z)) (hv : η[i]? = some (some (.cell n))) (h0 : L[kp]? = some (n, .lst (xs.map em))) (hL : ∀ g, L' g = L.set kp (n, .lst (g.2.map em))) : Wk L (popN xs z) (dBM isLst popO (dVar i) (dCons f dNil) η) (PV (fun g => fe g.1) L') X := fun st o => by
  have hi : isLst st (.cell n) = true := isLst_at (o.get kp h0)
  have e0 : dBM isLst popO (dVar i) (dCons f dNil) η st = popO (.cell n) [fe z] st := by
    unfold dBM
    rw [e_var hv, bind_ok]
    dsimp only
    rw [if_pos hi]
    unfold dCons dNil
    rw [hf st o]
    first | done | rfl
  unfold popN
  cases e4 : seqIndex? z xs.length with
  | none => trivial
  | some k =>
    dsimp only
    cases e5 : xs[k]? with
    | none => trivial
    | some a =>
      dsimp only
      by_cases hz : -(2 ^ 63) ≤ z ∧ z < 2 ^ 63
      · rw [if_pos hz]
        refine ⟨(fe a, st.set n (.lst ((xs.eraseIdx k).map em))), ?_, rfl, by rw [hL]; exact o.set h0 _⟩
        rw [e0]
        show (match st[n]? with
          | some (.lst xs) => match seqIndex? z xs.length with
            | some k => match xs[k]? with
              | some p => if -(2 ^ 63) ≤ z ∧ z < 2 ^ 63 then R.ok (D.fz p, st.set n (.lst (xs.eraseIdx k))) else .stuck
              | none => .stuck
            | none => .stuck
          | _ => .stuck) = _
        rw [o.get kp h0]
        dsimp only
        rw [List.length_map, e4]
        dsimp only
        rw [List.getElem?_map, e5]
        dsimp only [Option.map_some]
        rw [if_pos hz, erase_map] <;> rfl
      · rw [if_neg hz]; trivial
variable {r n : Nat} {ns : List Nat} {y : DS}
end
end N
end
section
set_option Elab.async false
set_option linter.all false
set_option maxRecDepth 100000
set_option maxHeartbeats 0
namespace M
open PySem L2
end M
end
section
set_option Elab.async false
set_option linter.all false
set_option maxRecDepth 100000
set_option maxHeartbeats 0
namespace N
open PySem L2 M
variable {α β γ δ σ : Type}
theorem OwnW.modG {L : Ow} {st st' : Sr} {w : List (List Nat)} {js : List Nat} {k n : Nat} {t t' : Tr} (h : OwnW L st w) (hk : L[k]? = some (n, t)) (hkw : k < w.length) (hb : ∀ r, t' ≠ .base r)
    (h1 : At st' t' (.cell n) js) (h2 : js.Nodup) (h3 : ∀ i ∈ js, i ∈ w[k] ∨ st.length ≤ i) (h4 : noBase L = true ∨ ∀ i ∈ w[k], i ∈ js ∨ ∃ c, st'[i]? = some c ∧ flatC c = true) (h5 : ∀ i, i < st.length → i ∉ w[k] → st'[i]? = st[i]?) : OwnW (L.set k (n, t')) st' (w.set k js) := by
  have hkl := (List.getElem?_eq_some_iff.mp hk).1
  have hw := List.getElem?_eq_getElem hkw
  have ha := h.at_ k n t _ hk hw
  obtain ⟨nd1, nd2⟩ := nodup_flatW.mp h.nd
  have old : ∀ (j : Nat) ids, w[j]? = some ids → k ≠ j → ∀ i ∈ ids, i < st.length ∧ i ∉ w[k] := fun j ids hj q i hi => by
    have hjl := (List.getElem?_eq_some_iff.mp hj).1
    rw [h.len] at hjl
    exact ⟨(h.at_ j _ _ ids (List.getElem?_eq_getElem hjl) hj).lt i hi, fun z => q (w_uniq h.nd hw hj z hi)⟩
  refine ⟨by rw [List.length_set, List.length_set]; exact h.len, ?_, fun j m s ids hj hj2 => ?_, fun m r e i hi => ?_⟩
  · rw [nodup_flatW]
    refine ⟨fun l hl => ?_, List.pairwise_iff_getElem.mpr fun i j hi hj hij => ?_⟩
    · obtain ⟨j, hj⟩ := List.getElem?_of_mem hl
      by_cases q : k = j
      · subst q
        rw [List.getElem?_set_self hkw] at hj
        cases hj; exact h2
      · rw [List.getElem?_set_ne q] at hj
        exact nd1 _ (List.mem_of_getElem? hj)
    · rw [List.length_set] at hi hj
      intro x hx hy
      rw [List.getElem_set] at hx hy
      by_cases q : k = i
      · rw [if_pos q] at hx
        rw [if_neg (by omega)] at hy
        obtain ⟨o1, o2⟩ := old j _ (List.getElem?_eq_getElem hj) (by omega) x hy
        rcases h3 x hx with z | z
        · exact o2 z
        · omega
      · rw [if_neg q] at hx
        by_cases q2 : k = j
        · rw [if_pos q2] at hy
          obtain ⟨o1, o2⟩ := old i _ (List.getElem?_eq_getElem hi) q x hx
          rcases h3 x hy with z | z
          · exact o2 z
          · omega
        · rw [if_neg q2] at hy
          exact Nat.ne_of_lt hij (w_uniq h.nd (List.getElem?_eq_getElem hi) (List.getElem?_eq_getElem hj) hx hy)
  · by_cases q : k = j
    · subst q
      rw [List.getElem?_set_self hkl] at hj
      rw [List.getElem?_set_self hkw] at hj2
      cases hj
      cases hj2
      exact h1
    · rw [List.getElem?_set_ne q] at hj hj2
      refine (h.at_ j m s ids hj hj2).frame fun i hi => ?_
      obtain ⟨o1, o2⟩ := old j ids hj2 q i hi
      exact h5 i o1 o2
  · have e' : L[0]? = some (m, .base r) := by
      by_cases q : k = 0
      · subst q
        rw [List.getElem?_set_self hkl] at e
        cases e
        exact absurd rfl (hb r)
      · rwa [List.getElem?_set_ne q] at e
    have h4 : ∀ i ∈ w[k], i ∈ js ∨ ∃ c, st'[i]? = some c ∧ flatC c = true := by
      rcases h4 with z | z
      · exfalso
        cases L with
        | nil => cases e'
        | cons x L => cases e'; cases z
      · exact z
    have inw : ∀ x ∈ (w.set k js).flatten, x ∈ js ∨ ∃ (j : Nat) (l : List Nat), k ≠ j ∧ w[j]? = some l ∧ x ∈ l := fun x hx => by
      obtain ⟨l, hl, hxl⟩ := List.mem_flatten.mp hx
      obtain ⟨j, hj⟩ := List.getElem?_of_mem hl
      by_cases q : k = j
      · subst q
        rw [List.getElem?_set_self hkw] at hj
        cases hj
        exact .inl hxl
      · rw [List.getElem?_set_ne q] at hj
        exact .inr ⟨j, l, q, hj, hxl⟩
    rcases h.cov m r e' i hi with this | ⟨z1, ct, z2, z3⟩
    · obtain ⟨l, hl, hil⟩ := List.mem_flatten.mp this
      obtain ⟨j, hj⟩ := List.getElem?_of_mem hl
      have hjr : j < r + 1 := by
        have := (List.getElem?_eq_some_iff.mp hj).1
        rw [List.length_take] at this; omega
      rw [List.getElem?_take_of_lt hjr] at hj
      by_cases q : k = j
      · subst q
        rw [hw] at hj
        cases hj
        rcases h4 i hil with z | z
        · exact .inl (List.mem_flatten.mpr ⟨js, List.mem_of_getElem? (i := k) (by rw [List.getElem?_take_of_lt hjr, List.getElem?_set_self hkw]), z⟩)
        · by_cases hjs : i ∈ js
          · exact .inl (List.mem_flatten.mpr ⟨js, List.mem_of_getElem? (i := k) (by rw [List.getElem?_take_of_lt hjr, List.getElem?_set_self hkw]), hjs⟩)
          · refine .inr ⟨fun hx => ?_, z⟩
            rcases inw i hx with y | ⟨j, l, y1, y2, y3⟩
            · exact hjs y
            · exact (old j l y2 y1 i y3).2 hil
      · exact .inl (List.mem_flatten.mpr ⟨l, List.mem_of_getElem? (i := j) (by rw [List.getElem?_take_of_lt hjr, List.getElem?_set_ne q]; exact hj), hil⟩)
    · have hil := (List.getElem?_eq_some_iff.mp z2).1
      have hnk : i ∉ w[k] := fun z => z1 (List.mem_flatten.mpr ⟨_, List.getElem_mem hkw, z⟩)
      refine .inr ⟨fun hx => ?_, ct, by rw [h5 i hil hnk]; exact z2, z3⟩
      rcases inw i hx with y | ⟨j, l, y1, y2, y3⟩
      · rcases h3 i y with y | y
        · exact hnk y
        · omega
      · exact z1 (List.mem_flatten.mpr ⟨l, List.mem_of_getElem? y2, y3⟩)
theorem Own.modG {L : Ow} {st st' : Sr} {k n : Nat} {t t' : Tr} (h : Own L st) (hk : L[k]? = some (n, t)) (hb : ∀ r, t' ≠ .base r)
    (hm : ∀ ids, At st t (.cell n) ids → ids.Nodup → ∃ js, At st' t' (.cell n) js ∧ js.Nodup ∧ (∀ i ∈ js, i ∈ ids ∨ st.length ≤ i) ∧ (noBase L = true ∨ ∀ i ∈ ids, i ∈ js ∨ ∃ c, st'[i]? = some c ∧ flatC c = true) ∧ ∀ i, i < st.length → i ∉ ids → st'[i]? = st[i]?) : Own (L.set k (n, t')) st' := by
  obtain ⟨w, h⟩ := h
  have hkl := (List.getElem?_eq_some_iff.mp hk).1
  have hkw : k < w.length := by rw [h.len]; exact hkl
  have hw := List.getElem?_eq_getElem hkw
  obtain ⟨js, h1, h2, h3, h4, h5⟩ := hm _ (h.at_ k n t _ hk hw) ((nodup_flatW.mp h.nd).1 _ (List.mem_of_getElem? hw))
  exact ⟨_, h.modG hk hkw hb h1 h2 h3 h4 h5⟩
/-- a tree changed, and a new one beside it -/
theorem Own.modN {L : Ow} {st st' : Sr} {k n n2 : Nat} {t t' t2 : Tr} (h : Own L st) (hk : L[k]? = some (n, t)) (hb : ∀ r, t' ≠ .base r) (hb2 : ∀ r, t2 ≠ .base r)
    (hm : ∀ ids, At st t (.cell n) ids → ids.Nodup → ∃ js ks, At st' t' (.cell n) js ∧ At st' t2 (.cell n2) ks ∧ (js ++ ks).Nodup ∧ (∀ i ∈ js, i ∈ ids ∨ st.length ≤ i) ∧ (∀ i ∈ ks, st.length ≤ i) ∧ (noBase L = true ∨ ∀ i ∈ ids, i ∈ js ∨ ∃ c, st'[i]? = some c ∧ flatC c = true) ∧ ∀ i, i < st.length → i ∉ ids → st'[i]? = st[i]?) : Own (L.set k (n, t') ++ [(n2, t2)]) st' := by
  obtain ⟨w, h⟩ := h
  have hkl := (List.getElem?_eq_some_iff.mp hk).1
  have hkw : k < w.length := by rw [h.len]; exact hkl
  have hw := List.getElem?_eq_getElem hkw
  obtain ⟨js, ks, h1, g1, h2, h3, g3, h4, h5⟩ := hm _ (h.at_ k n t _ hk hw) ((nodup_flatW.mp h.nd).1 _ (List.mem_of_getElem? hw))
  obtain ⟨n1, n2', n3⟩ := List.nodup_append.mp h2
  have H := h.modG hk hkw hb h1 n1 h3 h4 h5
  have dis : ∀ x ∈ (w.set k js).flatten, x ∉ ks := fun x hx hxk => by
    obtain ⟨l, hl, hxl⟩ := List.mem_flatten.mp hx
    obtain ⟨j, hj⟩ := List.getElem?_of_mem hl
    by_cases q : k = j
    · subst q
      rw [List.getElem?_set_self hkw] at hj
      cases hj
      exact n3 x hxl x hxk rfl
    · rw [List.getElem?_set_ne q] at hj
      have hjl := (List.getElem?_eq_some_iff.mp hj).1
      rw [h.len] at hjl
      have := (h.at_ j _ _ l (List.getElem?_eq_getElem hjl) hj).lt x hxl
      have := g3 x hxk
      omega
  refine ⟨w.set k js ++ [ks], by rw [List.length_append, List.length_append, H.len]; rfl, ?_, fun j m s ids hj hj2 => ?_, fun m r e i hi => ?_⟩
  · rw [List.flatten_append, List.nodup_append]
    refine ⟨H.nd, by simpa using n2', fun a ha b hb' e => ?_⟩
    subst e
    exact dis a ha (by simpa using hb')
  · have hl := H.len
    by_cases q : j < (L.set k (n, t')).length
    · rw [List.getElem?_append_left q] at hj
      rw [List.getElem?_append_left (by rw [hl]; exact q)] at hj2
      exact H.at_ j m s ids hj hj2
    · have hjl := (List.getElem?_eq_some_iff.mp hj).1
      rw [List.length_append, List.length_singleton] at hjl
      have hjj : j = (L.set k (n, t')).length := by omega
      subst hjj
      rw [List.getElem?_append_right (Nat.le_refl _), Nat.sub_self] at hj
      rw [← hl, List.getElem?_append_right (Nat.le_refl _), Nat.sub_self] at hj2
      cases hj
      cases hj2
      exact g1
  · have hpos : 0 < (L.set k (n, t')).length := by rw [List.length_set]; omega
    rw [List.getElem?_append_left hpos] at e
    have hlw : r + 1 ≤ r + 1 := Nat.le_refl _
    rcases H.cov m r e i hi with z | ⟨z1, ct, z2, z3⟩
    · refine .inl ?_
      rw [List.take_append, List.flatten_append]
      exact List.mem_append_left _ z
    · by_cases q : i ∈ ks
      · exfalso
        have hg := g3 i q
        -- below the base all cells stood already
        have e' : L[0]? = some (m, .base r) := by
          by_cases q : k = 0
          · subst q
            rw [List.getElem?_set_self hkl] at e
            cases e
            exact absurd rfl (hb r)
          · rwa [List.getElem?_set_ne q] at e
        rcases h.cov m r e' i hi with y | ⟨_, c0, y, _⟩
        · obtain ⟨l, hl, hil⟩ := List.mem_flatten.mp y
          have hl2 := List.mem_of_mem_take hl
          have := h.lt i (List.mem_flatten.mpr ⟨l, hl2, hil⟩)
          omega
        · have := (List.getElem?_eq_some_iff.mp y).1
          omega
      · refine .inr ⟨fun z => ?_, ct, z2, z3⟩
        rw [List.flatten_append] at z
        rcases List.mem_append.mp z with z | z
        · exact z1 z
        · exact q (by simpa using z)
theorem Own.mod {L : Ow} {st st' : Sr} {k n : Nat} {t t' : Tr} (h : Own L st) (hk : L[k]? = some (n, t)) (hb : ∀ r, t' ≠ .base r)
    (hm : ∀ ids, At st t (.cell n) ids → ids.Nodup → ∃ js, At st' t' (.cell n) js ∧ js.Nodup ∧ (∀ i ∈ js, i ∈ ids ∨ st.length ≤ i) ∧ (∀ i ∈ ids, i ∈ js) ∧ ∀ i, i < st.length → i ∉ ids → st'[i]? = st[i]?) : Own (L.set k (n, t')) st' :=
  h.modG hk hb fun ids a nd => let ⟨js, h1, h2, h3, h4, h5⟩ := hm ids a nd; ⟨js, h1, h2, h3, .inr fun i hi => .inl (h4 i hi), h5⟩
theorem Own.tree {L : Ow} {st : Sr} (h : Own L st) {k n : Nat} {t : Tr} (hk : L[k]? = some (n, t)) : ∃ ids, At st t (.cell n) ids ∧ ids.Nodup := by
  obtain ⟨w, h⟩ := h
  have hkl := (List.getElem?_eq_some_iff.mp hk).1
  rw [← h.len] at hkl
  have hw := List.getElem?_eq_getElem hkl
  exact ⟨_, h.at_ k n t _ hk hw, (nodup_flatW.mp h.nd).1 _ (List.mem_of_getElem? hw)⟩
/-- a new tree behind the others -/
theorem Own.newT {L : Ow} {st : Sr} (h : Own L st) {cs : Sr} {n : Nat} {t : Tr} {ids : List Nat} (ha : At (st ++ cs) t (.cell n) ids) (nd : ids.Nodup) (hn : ∀ i ∈ ids, st.length ≤ i) (hb : ∀ r, t ≠ .base r) : Own (L ++ [(n, t)]) (st ++ cs) := by
  obtain ⟨w, h⟩ := h
  refine ⟨w ++ [ids], by rw [List.length_append, List.length_append, h.len]; rfl, ?_, fun j m s js hj hj2 => ?_, fun m r e i hi => ?_⟩
  · rw [List.flatten_append, List.nodup_append]
    refine ⟨h.nd, by simpa using nd, fun a ha' b hb => ?_⟩
    have := h.lt a ha'
    have := hn b (by simpa using hb)
    omega
  · by_cases q : j < L.length
    · rw [List.getElem?_append_left q] at hj
      rw [List.getElem?_append_left (by rw [h.len]; exact q)] at hj2
      have a := h.at_ j m s js hj hj2
      exact a.frame fun i hi => List.getElem?_append_left (a.lt i hi)
    · have hjl := (List.getElem?_eq_some_iff.mp hj).1
      rw [List.length_append, List.length_singleton] at hjl
      have hjj : j = L.length := by omega
      subst hjj
      rw [List.getElem?_append_right (Nat.le_refl _), Nat.sub_self] at hj
      rw [← h.len, List.getElem?_append_right (Nat.le_refl _), Nat.sub_self] at hj2
      cases hj
      cases hj2
      exact ha
  · cases L with
    | nil =>
      have hl : w.length = 0 := h.len
      have : w = [] := List.length_eq_zero_iff.mp hl
      subst this
      cases e
      exact absurd rfl (hb r)
    | cons x L =>
      rw [List.take_append, List.flatten_append]
      rcases h.cov m r e i hi with z | ⟨z1, ct, z2, z3⟩
      · exact .inl (List.mem_append_left _ z)
      · have hl := (List.getElem?_eq_some_iff.mp z2).1
        refine .inr ⟨fun z => ?_, ct, by rw [List.getElem?_append_left hl]; exact z2, z3⟩
        rw [List.flatten_append] at z
        rcases List.mem_append.mp z with z | z
        · exact z1 z
        · have := hn i (by simpa using z)
          omega
mutual
theorem at_ids {st : Sr} : ∀ {t : Tr} {d : D} {i j : List Nat}, At st t d i → At st t d j → i = j
  | .c ct, d, i, j, a, b => by
    obtain ⟨n, e1, e2, _⟩ := a
    obtain ⟨m, f1, f2, _⟩ := b
    rw [e1] at f1; cases f1; rw [e2, f2]
  | .v p, d, i, j, a, b => by rw [a.2, b.2]
  | .base _, d, i, j, a, b => by rw [show i = [] from a, show j = [] from b]
  | .obj cl fs, d, i, j, a, b => by
    obtain ⟨n, ds, is, e1, e2, e3, e4⟩ := a
    obtain ⟨m, ds', is', f1, f2, f3, f4⟩ := b
    rw [e1] at f1; cases f1
    rw [e3] at f3; cases f3
    rw [e2, f2, atf_ids e4 f4]
  | .ls xs, d, i, j, a, b => by
    obtain ⟨n, ds, is, e1, e2, e3, e4⟩ := a
    obtain ⟨m, ds', is', f1, f2, f3, f4⟩ := b
    rw [e1] at f1; cases f1
    rw [e3] at f3; cases f3
    rw [e2, f2, atl_ids e4 f4]
theorem atf_ids {st : Sr} : ∀ {fs : List (Str × Tr)} {ds : List (Str × D)} {i j : List Nat}, AtF st fs ds i → AtF st fs ds j → i = j
  | [], ds, i, j, a, b => by rw [a.2, b.2]
  | (f, t) :: fs, ds, i, j, a, b => by
    obtain ⟨d, r, i1, i2, e1, e2, e3, e4⟩ := a
    obtain ⟨d', r', j1, j2, f1, f2, f3, f4⟩ := b
    rw [e1] at f1; cases f1
    rw [e2, f2, at_ids e3 f3, atf_ids e4 f4]
theorem atl_ids {st : Sr} : ∀ {ts : List Tr} {ds : List D} {i j : List Nat}, AtL st ts ds i → AtL st ts ds j → i = j
  | [], ds, i, j, a, b => by rw [a.2, b.2]
  | t :: ts, ds, i, j, a, b => by
    obtain ⟨d, r, i1, i2, e1, e2, e3, e4⟩ := a
    obtain ⟨d', r', j1, j2, f1, f2, f3, f4⟩ := b
    rw [e1] at f1; cases f1
    rw [e2, f2, at_ids e3 f3, atl_ids e4 f4]
end
structure Pz where
  a : Int
  b : Int
  c : List Int
instance : Em Pz := ⟨fun p => .lst [.int p.a, .int p.b, .lst (p.c.map em)]⟩
end N
end
section
set_option Elab.async false
set_option linter.all false
set_option maxRecDepth 100000
set_option maxHeartbeats 0
namespace N
open PySem L2 M
variable {α β γ δ σ : Type}
/-- a field's tree put -/
def putT (f : Str) (t : Tr) : List (Str × Tr) → List (Str × Tr)
  | [] => [(f, t)]
  | (k, u) :: r => if k = f then (k, t) :: r else (k, u) :: putT f t r
/-- a field looked up: its value, its cells -/
theorem atf_look {st : Sr} {f : Str} {t : Tr} : ∀ {fs : List (Str × Tr)} {ds : List (Str × D)} {ids : List Nat}, AtF st fs ds ids → fs.lookup f = some t → ∃ d i, ds.lookup f = some d ∧ At st t d i ∧ ∀ x ∈ i, x ∈ ids
  | (k, u) :: fs, ds, ids, a, e => by
    obtain ⟨d, r, i, j, rfl, rfl, e3, e4⟩ := a
    rw [List.lookup_cons] at e ⊢
    cases q : f == k with
    | true => rw [q] at e; cases e; exact ⟨d, i, rfl, e3, fun x hx => List.mem_append_left _ hx⟩
    | false =>
      rw [q] at e
      obtain ⟨d2, i2, h1, h2, h3⟩ := atf_look e4 e
      exact ⟨d2, i2, h1, h2, fun x hx => List.mem_append_right _ (h3 x hx)⟩
theorem atf_len {st : Sr} : ∀ {fs : List (Str × Tr)} {ds : List (Str × D)} {ids : List Nat}, AtF st fs ds ids → ds.length = fs.length
  | [], ds, ids, a => by rw [a.1]; rfl
  | (k, u) :: fs, ds, ids, a => by
    obtain ⟨d, r, i, j, rfl, rfl, e3, e4⟩ := a
    rw [List.length_cons, List.length_cons, atf_len e4]
/-- a field put that holds no cell, in place of one that held none -/
theorem atf_put {st : Sr} {f : Str} {p q : P} : ∀ {fs : List (Str × Tr)} {ds : List (Str × D)} {ids : List Nat}, AtF st fs ds ids → fs.lookup f = some (.v q) → AtF st (putT f (.v p) fs) (putD f (.fz p) ds) ids
  | (k, u) :: fs, ds, ids, a, e => by
    obtain ⟨d, r, i, j, rfl, rfl, e3, e4⟩ := a
    rw [List.lookup_cons] at e
    unfold putT putD
    by_cases h : k = f
    · subst h
      rw [beq_self_eq_true] at e
      cases e
      rw [if_pos rfl, if_pos rfl]
      exact ⟨_, _, [], j, rfl, by rw [e3.2], ⟨rfl, rfl⟩, e4⟩
    · have hb : (f == k) = false := by rw [beq_eq_false_iff_ne]; exact fun z => h z.symm
      rw [hb] at e
      rw [if_neg h, if_neg h]
      exact ⟨_, _, i, j, rfl, rfl, e3, atf_put e4 e⟩
/-- a field's tree changed where it stands -/
theorem atf_mod {st : Sr} {f : Str} {t : Tr} : ∀ {fs : List (Str × Tr)} {ds : List (Str × D)} {ids : List Nat}, AtF st fs ds ids → ids.Nodup → fs.lookup f = some t → ∃ d i, ds.lookup f = some d ∧ At st t d i ∧ i.Nodup ∧ (∀ x ∈ i, x ∈ ids) ∧ ∀ (st' : Sr) (t' : Tr) (i' : List Nat), At st' t' d i' → i'.Nodup → (∀ x ∈ i', x ∈ i ∨ x ∉ ids) → (∀ x ∈ ids, x ∉ i → st'[x]? = st[x]?) → ∃ ids', AtF st' (putT f t' fs) ds ids' ∧ ids'.Nodup ∧ (∀ x ∈ ids', x ∈ i' ∨ (x ∈ ids ∧ x ∉ i)) ∧ (∀ x ∈ ids, x ∉ i → x ∈ ids') ∧ ∀ x ∈ i', x ∈ ids'
  | (k, u) :: fs, ds, ids, a, nd, e => by
    obtain ⟨d, r, i, j, rfl, rfl, e3, e4⟩ := a
    obtain ⟨n1, n2, n3⟩ := List.nodup_append.mp nd
    rw [List.lookup_cons] at e
    by_cases h : k = f
    · subst h
      rw [beq_self_eq_true] at e
      cases e
      refine ⟨d, i, by rw [List.lookup_cons, beq_self_eq_true], e3, n1, fun x hx => List.mem_append_left _ hx, fun st' t' i' b1 b2 b3 b4 => ?_⟩
      have hj : ∀ x ∈ j, x ∉ i := fun x hx z => n3 x z x hx rfl
      refine ⟨i' ++ j, ?_, ?_, fun x hx => ?_, fun x hx hn => ?_, fun x hx => List.mem_append_left _ hx⟩
      · unfold putT
        rw [if_pos rfl]
        exact ⟨d, r, i', j, rfl, rfl, b1, e4.frame fun x hx => b4 x (List.mem_append_right _ hx) (hj x hx)⟩
      · refine List.nodup_append.mpr ⟨b2, n2, fun x hx w hw => ?_⟩
        rintro rfl
        rcases b3 x hx with z | z
        · exact hj x hw z
        · exact z (List.mem_append_right _ hw)
      · rcases List.mem_append.mp hx with hx | hx
        · exact .inl hx
        · exact .inr ⟨List.mem_append_right _ hx, hj x hx⟩
      · rcases List.mem_append.mp hx with hx | hx
        · exact absurd hx hn
        · exact List.mem_append_right _ hx
    · have hb : (f == k) = false := by rw [beq_eq_false_iff_ne]; exact fun z => h z.symm
      rw [hb] at e
      obtain ⟨d2, i2, h1, h2, h3, h4, h5⟩ := atf_mod e4 n2 e
      have hi : ∀ x ∈ i, x ∉ i2 := fun x hx z => n3 x hx x (h4 x z) rfl
      refine ⟨d2, i2, by rw [List.lookup_cons, hb]; exact h1, h2, h3, fun x hx => List.mem_append_right _ (h4 x hx), fun st' t' i' b1 b2 b3 b4 => ?_⟩
      obtain ⟨js, c1, c2, c3, c4, c5⟩ := h5 st' t' i' b1 b2 (fun x hx => (b3 x hx).imp id fun z w => z (List.mem_append_right _ w)) fun x hx hn => b4 x (List.mem_append_right _ hx) hn
      refine ⟨i ++ js, ?_, ?_, fun x hx => ?_, fun x hx hn => ?_, fun x hx => List.mem_append_right _ (c5 x hx)⟩
      · unfold putT
        rw [if_neg h]
        exact ⟨d, r, i, js, rfl, rfl, e3.frame fun x hx => b4 x (List.mem_append_left _ hx) (hi x hx), c1⟩
      · refine List.nodup_append.mpr ⟨n1, c2, fun x hx w hw => ?_⟩
        rintro rfl
        rcases c3 x hw with z | ⟨z, _⟩
        · rcases b3 x z with q | q
          · exact hi x hx q
          · exact q (List.mem_append_left _ hx)
        · exact n3 x hx x z rfl
      · rcases List.mem_append.mp hx with hx | hx
        · exact .inr ⟨List.mem_append_left _ hx, hi x hx⟩
        · rcases c3 x hx with z | ⟨z, w⟩
          · exact .inl z
          · exact .inr ⟨List.mem_append_right _ z, w⟩
      · rcases List.mem_append.mp hx with hx | hx
        · exact List.mem_append_left _ hx
        · exact List.mem_append_right _ (c4 x hx hn)
section
variable {L : Ow} {X : XP} {η : Et} {y : DS} {r n kp : Nat} {c f : Str} {cs : List Str} {fs : List (Str × Tr)}
theorem obj_root {st : Sr} {ids : List Nat} (a : At st (.obj c fs) (.cell n) ids) : ∃ ds is, ids = n :: is ∧ st[n]? = some (.obj c ds) ∧ AtF st fs ds is := by
  obtain ⟨n', ds, is, e1, e2, e3, e4⟩ := a
  cases e1
  exact ⟨ds, is, e2, e3, e4⟩
/-- self.f, frozen data -/
theorem ev_attr {g : DE} {p : P} (h0 : L[kp]? = some (n, .obj c fs)) (hg : Ev L (g η) (.cell n)) (hl : fs.lookup f = some (.v p)) (hc : cs.contains c = true) : Ev L (dFld f cs g η) (.fz p) := fun st o => by
  obtain ⟨ids, a, _⟩ := o.tree h0
  obtain ⟨ds, is, _, hn, ha⟩ := obj_root a
  obtain ⟨d, i, h1, h2, _⟩ := atf_look ha hl
  have hd : d = .fz p := h2.1
  subst hd
  unfold dFld
  rw [hg st o, bind_ok]
  have e : fldD f cs st (.cell n) = some (.fz p) := by
    show (match st[n]? with
      | some (.obj c fs) => if cs.contains c = true then fs.lookup f else none
      | some (.frz (.obj c fs)) => if cs.contains c = true then (fs.lookup f).map D.fz else none
      | _ => none) = _
    rw [hn]
    dsimp only
    rw [if_pos hc, h1]
  dsimp only
  rw [e]
/-- self.f = v, data for data -/
theorem ws_setAv {v g : DE} {p q : P} {m : Rs γ} {Q : γ → Fl × Et × Sr → Prop} (h0 : L[kp]? = some (n, .obj c fs)) (hv : Ev L (v η) (.fz p)) (hg : Ev L (g η) (.cell n)) (hl : fs.lookup f = some (.v q)) (hc : cs.contains c = true) (hz : fs.length < 1000) (hk : Wk (L.set kp (n, .obj c (putT f (.v p) fs))) m (y η) Q X) :
    Wk L m (dSeq (dSetA f cs v g) y η) Q X := fun st o => by
  obtain ⟨ids, a, _⟩ := o.tree h0
  obtain ⟨ds, is, rfl, hn, ha⟩ := obj_root a
  have hlen : ds.length = fs.length := atf_len ha
  have e : dSeq (dSetA f cs v g) y η st = y η (st.set n (.obj c (putD f (.fz p) ds))) := by
    have : dSetA f cs v g η st = .ok (.nx, η, st.set n (.obj c (putD f (.fz p) ds))) := by
      unfold dSetA
      rw [hv st o, bind_ok]
      dsimp only
      rw [hg st o, bind_ok]
      dsimp only
      rw [hn]
      dsimp only
      rw [if_pos ⟨hc, by rw [hlen]; exact hz⟩]
    unfold dSeq
    rw [this]; rfl
  rw [e]
  refine hk _ (o.mod h0 (fun r h => by cases h) fun ids at1 nd1 => ?_)
  obtain ⟨ds', is', rfl, hn', ha'⟩ := obj_root at1
  rw [hn] at hn'
  cases hn'
  have hin := List.nodup_cons.mp nd1
  refine ⟨n :: is', ⟨n, _, is', rfl, rfl, List.getElem?_set_self (lt_of_at hn), ?_⟩, nd1, fun i hi => .inl hi, fun i hi => hi, fun i _ hi => List.getElem?_set_ne fun z => hi (by rw [← z]; exact List.mem_cons_self)⟩
  exact (atf_put ha' hl).frame fun i hi => List.getElem?_set_ne fun z => hin.1 (by rw [z]; exact hi)
/-- a field that is one cell: where it stands, and it may change -/
theorem Own.field {st : Sr} {c0 : Ct} (o : Own L st) (h0 : L[kp]? = some (n, .obj c fs)) (hl : fs.lookup f = some (.c c0)) : ∃ ds m, st[n]? = some (.obj c ds) ∧ ds.lookup f = some (.cell m) ∧ st[m]? = some c0 ∧ ∀ c1, Own (L.set kp (n, .obj c (putT f (.c c1) fs))) (st.set m c1) := by
  obtain ⟨ids, a, nd⟩ := o.tree h0
  obtain ⟨ds, is, rfl, hn, ha⟩ := obj_root a
  have hin := List.nodup_cons.mp nd
  obtain ⟨d, i, h1, h2, h3, h4, h5⟩ := atf_mod ha hin.2 hl
  obtain ⟨m, rfl, rfl, hm⟩ := h2
  have hmi := h4 m (List.mem_singleton.mpr rfl)
  have hnm : n ≠ m := fun z => hin.1 (by rw [z]; exact hmi)
  refine ⟨ds, m, hn, h1, hm, fun c1 => o.mod h0 (fun r h => by cases h) fun ids2 a2 nd2 => ?_⟩
  have hid : ids2 = n :: is := at_ids a2 a
  subst hid
  obtain ⟨js, b1, b2, b3, b4, b5⟩ := h5 (st.set m c1) (.c c1) [m] ⟨m, rfl, rfl, List.getElem?_set_self (lt_of_at hm)⟩ (by simp) (fun x hx => .inl hx) fun x _ hx => List.getElem?_set_ne fun z => hx (by rw [z]; exact List.mem_singleton.mpr rfl)
  have hjs : ∀ x ∈ js, x ∈ is := fun x hx => by
    rcases b3 x hx with z | z
    · rw [List.mem_singleton.mp z]; exact hmi
    · exact z.1
  refine ⟨n :: js, ⟨n, ds, js, rfl, rfl, by rw [List.getElem?_set_ne hnm.symm]; exact hn, b1⟩, List.nodup_cons.mpr ⟨fun z => hin.1 (hjs n z), b2⟩, fun x hx => .inl ?_, fun x hx => ?_, fun x _ hx => ?_⟩
  · rcases List.mem_cons.mp hx with rfl | hx
    · exact List.mem_cons_self
    · exact List.mem_cons_of_mem _ (hjs x hx)
  · rcases List.mem_cons.mp hx with rfl | hx
    · exact List.mem_cons_self
    · refine List.mem_cons_of_mem _ ?_
      by_cases z : x = m
      · rw [z]; exact b5 m (List.mem_singleton.mpr rfl)
      · exact b4 x hx fun q => z (List.mem_singleton.mp q)
  · exact List.getElem?_set_ne fun z => hx (by rw [← z]; exact List.mem_cons_of_mem _ hmi)
/-- what a field that is one cell is read as -/
theorem fld_cell {g : DE} {st : Sr} {ds : List (Str × D)} {d : D} (hg : g η st = .ok (.cell n, st)) (hn : st[n]? = some (.obj c ds)) (hc : cs.contains c = true) (hl : ds.lookup f = some d) : dFld f cs g η st = .ok (d, st) := by
  unfold dFld
  rw [hg, bind_ok]
  have e : fldD f cs st (.cell n) = some d := by
    show (match st[n]? with
      | some (.obj c fs) => if cs.contains c = true then fs.lookup f else none
      | some (.frz (.obj c fs)) => if cs.contains c = true then (fs.lookup f).map D.fz else none
      | _ => none) = _
    rw [hn]
    dsimp only
    rw [if_pos hc, hl]
  dsimp only
  rw [e]
/-- self.f.append(v) -/
theorem ws_fapp [Em β] {g v : DE} {xs : List β} {x : β} {kk : List β → Rs γ} {Q : γ → Fl × Et × Sr → Prop} (h0 : L[kp]? = some (n, .obj c fs)) (hg : Ev L (g η) (.cell n)) (hl : fs.lookup f = some (.c (.lst (xs.map em)))) (hc : cs.contains c = true) (hv : Ev L (v η) (fe x)) (hk : ∀ zs, Wk (L.set kp (n, .obj c (putT f (.c (.lst (zs.map em))) fs))) (kk zs) (y η) Q X) :
    Wk L ((app xs x).bind kk) (dSeq (dEx (dBM isLst appendO (dFld f cs g) (dCons v dNil))) y η) Q X := fun st o => by
  unfold app
  by_cases hz : xs.length < 16777216
  · rw [if_pos hz, ok_bind]
    obtain ⟨ds, m, hn, h1, hm, ho⟩ := Own.field o h0 hl
    have e2 : dSeq (dEx (dBM isLst appendO (dFld f cs g) (dCons v dNil))) y η st = y η (st.set m (.lst ((xs ++ [x]).map em))) := by
      have e1 : dBM isLst appendO (dFld f cs g) (dCons v dNil) η st = .ok (.fz .non, st.set m (.lst ((xs ++ [x]).map em))) := by
        unfold dBM
        rw [fld_cell (hg st o) hn hc h1, bind_ok]
        dsimp only
        rw [if_pos (isLst_at hm)]
        unfold dCons dNil
        rw [hv st o, bind_ok]
        show appendO (.cell m) [fe x] st = _
        unfold appendO
        show (match st[m]? with
          | some (.lst xs) => if xs.length < szL then R.ok (D.fz .non, st.set m (.lst (xs ++ [em x]))) else .stuck
          | _ => .stuck) = _
        rw [hm]
        dsimp only
        rw [if_pos (by rw [List.length_map]; exact hz), List.map_append]; rfl
      unfold dSeq dEx
      rw [e1]; rfl
    rw [e2]
    exact hk _ _ (ho _)
  · rw [if_neg hz]; trivial
/-- self.f.get(key, x), x frozen data -/
theorem ev_fget {g fk fx : DE} {kvs : List (Key × P)} {pk px : P} {k : Key} (h0 : L[kp]? = some (n, .obj c fs)) (hg : Ev L (g η) (.cell n)) (hl : fs.lookup f = some (.c (.dct kvs))) (hc : cs.contains c = true) (hk : Ev L (fk η) (.fz pk)) (hp : keyP pk = some k) (hx : Ev L (fx η) (.fz px)) : Ev L (dGet2 (dFld f cs g) fk fx η) (.fz ((getK k kvs).getD px)) := fun st o => by
  obtain ⟨ds, m, hn, hd, hm, _⟩ := Own.field o h0 hl
  unfold dGet2
  rw [fld_cell (hg st o) hn hc hd, bind_ok]
  have e : dctOf st (.cell m) = some kvs := by
    unfold dctOf
    rw [show peek st (.cell m) = some (.dct kvs) from peek_dct hm]
  dsimp only
  rw [e]
  dsimp only
  rw [hk st o, bind_ok]
  dsimp only
  rw [hx st o, bind_ok]
  dsimp only
  rw [e]
  have e3 : (peek st (.fz pk)).bind keyP = some k := hp
  rw [e3]
  dsimp only
  cases getK k kvs <;> rfl
/-- a new object that stays a cell -/
def PO (c : Str) (fsOf : γ → List (Str × Tr)) (L' : γ → Ow) : γ → (D × Sr) → Prop := fun g a => ∃ n, a.1 = .cell n ∧ Own (L' g ++ [(n, .obj c (fsOf g))]) a.2
theorem w_newC0 {F : DF} {g : DA} {ds : List D} {m : Rs γ} {fsOf : γ → List (Str × Tr)} (hg : Ev L (g η) ds) (h : ∀ n, Wk (L ++ [(n, .obj c [])]) m (callF F (.cell n :: ds) η) (PV (fun _ => .fz .non) fun t => L ++ [(n, .obj c (fsOf t))]) X) : Wk L m (dNewC c F g η) (PO c fsOf fun _ => L) X := fun st o => by
  have e0 : dNewC c F g η st = (callF F (.cell st.length :: ds) η (st ++ [.obj c []])).bind fun b => keepE st.length b := by
    unfold dNewC
    rw [hg st o, bind_ok]
  have o1 : Own (L ++ [(st.length, .obj c [])]) (st ++ [.obj c []]) :=
    o.newT (ids := [st.length]) ⟨st.length, [], [], rfl, rfl, by simp, rfl, rfl⟩ (by simp) (fun i hi => by simp at hi; omega) (fun r hr => by cases hr)
  have h := h st.length _ o1
  rw [e0]
  cases m with
  | stuck => trivial
  | exc cl fx =>
    obtain ⟨e, st', h1, h2⟩ := h
    exact ⟨e, st', by rw [h1]; rfl, h2⟩
  | ok t =>
    obtain ⟨⟨b, st'⟩, h1, h2, o'⟩ := h
    cases h2
    exact ⟨(.cell st.length, st'), by rw [h1]; rfl, st.length, rfl, o'⟩
/-- x = C(..), the object stays a cell -/
theorem ws_setO {e : DE} {mv : Rs δ} {kk : δ → Rs γ} {fsOf : δ → List (Str × Tr)} {L' : δ → Ow} {Q : γ → Fl × Et × Sr → Prop} (V : Wk L mv (e η) (PO c fsOf L') X) (hk : ∀ g n, Wk (L' g ++ [(n, .obj c (fsOf g))]) (kk g) (y (η.set i (some (.cell n)))) Q X) : Wk L (mv.bind kk) (dSeq (dAsg e (gNm i)) y η) Q X := fun st o => by
  have h := V st o
  cases mv with
  | stuck => trivial
  | exc cl fx =>
    obtain ⟨e1, st', h1, h2⟩ := h
    exact ⟨e1, st', by unfold dSeq dAsg; rw [h1]; rfl, h2⟩
  | ok g =>
    obtain ⟨⟨b, st'⟩, h1, n, h2, h3⟩ := h
    cases h2
    have e2 : dSeq (dAsg e (gNm i)) y η st = y (η.set i (some (.cell n))) st' := by unfold dSeq dAsg; rw [h1]; rfl
    have := hk g n st' h3
    rw [← e2] at this
    exact this
/-- a field set for the first time -/
theorem atf_new {st : Sr} {f : Str} {p : P} : ∀ {fs : List (Str × Tr)} {ds : List (Str × D)} {ids : List Nat}, AtF st fs ds ids → fs.lookup f = none → AtF st (putT f (.v p) fs) (putD f (.fz p) ds) ids
  | [], ds, ids, a, e => by
    obtain ⟨rfl, rfl⟩ := a
    exact ⟨.fz p, [], [], [], rfl, rfl, ⟨rfl, rfl⟩, rfl, rfl⟩
  | (k, u) :: fs, ds, ids, a, e => by
    obtain ⟨d, r, i, j, rfl, rfl, e3, e4⟩ := a
    rw [List.lookup_cons] at e
    unfold putT putD
    by_cases h : k = f
    · subst h
      rw [beq_self_eq_true] at e
      cases e
    · have hb : (f == k) = false := by rw [beq_eq_false_iff_ne]; exact fun z => h z.symm
      rw [hb] at e
      rw [if_neg h, if_neg h]
      exact ⟨_, _, i, j, rfl, rfl, e3, atf_new e4 e⟩
theorem ws_setAn {v g : DE} {p : P} {m : Rs γ} {Q : γ → Fl × Et × Sr → Prop} (h0 : L[kp]? = some (n, .obj c fs)) (hv : Ev L (v η) (.fz p)) (hg : Ev L (g η) (.cell n)) (hl : fs.lookup f = none) (hc : cs.contains c = true) (hz : fs.length < 1000) (hk : Wk (L.set kp (n, .obj c (putT f (.v p) fs))) m (y η) Q X) :
    Wk L m (dSeq (dSetA f cs v g) y η) Q X := fun st o => by
  obtain ⟨ids, a, _⟩ := o.tree h0
  obtain ⟨ds, is, rfl, hn, ha⟩ := obj_root a
  have hlen : ds.length = fs.length := atf_len ha
  have e : dSeq (dSetA f cs v g) y η st = y η (st.set n (.obj c (putD f (.fz p) ds))) := by
    have : dSetA f cs v g η st = .ok (.nx, η, st.set n (.obj c (putD f (.fz p) ds))) := by
      unfold dSetA
      rw [hv st o, bind_ok]
      dsimp only
      rw [hg st o, bind_ok]
      dsimp only
      rw [hn]
      dsimp only
      rw [if_pos ⟨hc, by rw [hlen]; exact hz⟩]
    unfold dSeq
    rw [this]; rfl
  rw [e]
  refine hk _ (o.mod h0 (fun r h => by cases h) fun ids at1 nd1 => ?_)
  obtain ⟨ds', is', rfl, hn', ha'⟩ := obj_root at1
  rw [hn] at hn'
  cases hn'
  have hin := List.nodup_cons.mp nd1
  refine ⟨n :: is', ⟨n, _, is', rfl, rfl, List.getElem?_set_self (lt_of_at hn), ?_⟩, nd1, fun i hi => .inl hi, fun i hi => hi, fun i _ hi => List.getElem?_set_ne fun z => hi (by rw [← z]; exact List.mem_cons_self)⟩
  exact (atf_new ha' hl).frame fun i hi => List.getElem?_set_ne fun z => hin.1 (by rw [z]; exact hi)
/-- a field set for the first time to a new cell -/
theorem atf_newC {st : Sr} {f : Str} {m : Nat} {ct : Ct} (hm : st[m]? = some ct) : ∀ {fs : List (Str × Tr)} {ds : List (Str × D)} {ids : List Nat}, AtF st fs ds ids → fs.lookup f = none → AtF st (putT f (.c ct) fs) (putD f (.cell m) ds) (ids ++ [m])
  | [], ds, ids, a, e => by
    obtain ⟨rfl, rfl⟩ := a
    exact ⟨.cell m, [], [m], [], rfl, rfl, ⟨m, rfl, rfl, hm⟩, rfl, rfl⟩
  | (k, u) :: fs, ds, ids, a, e => by
    obtain ⟨d, r, i, j, rfl, rfl, e3, e4⟩ := a
    rw [List.lookup_cons] at e
    unfold putT putD
    by_cases h : k = f
    · subst h
      rw [beq_self_eq_true] at e
      cases e
    · have hb : (f == k) = false := by rw [beq_eq_false_iff_ne]; exact fun z => h z.symm
      rw [hb] at e
      rw [if_neg h, if_neg h]
      exact ⟨_, _, i, j ++ [m], rfl, List.append_assoc _ _ _, e3, atf_newC hm e4 e⟩
theorem ws_setAc {v g : DE} {ct : Ct} {m : Rs γ} {Q : γ → Fl × Et × Sr → Prop} (h0 : L[kp]? = some (n, .obj c fs)) (hv : ∀ st, Own L st → v η st = .ok (.cell st.length, st ++ [ct])) (hg : ∀ st, g η st = .ok (.cell n, st)) (hl : fs.lookup f = none) (hc : cs.contains c = true) (hz : fs.length < 1000) (hk : Wk (L.set kp (n, .obj c (putT f (.c ct) fs))) m (y η) Q X) :
    Wk L m (dSeq (dSetA f cs v g) y η) Q X := fun st o => by
  obtain ⟨ids, a, _⟩ := o.tree h0
  obtain ⟨ds, is, rfl, hn, ha⟩ := obj_root a
  have hlen : ds.length = fs.length := atf_len ha
  have hlt : n < st.length := lt_of_at hn
  have hn2 : (st ++ [ct])[n]? = some (.obj c ds) := by rw [List.getElem?_append_left hlt]; exact hn
  have e : dSeq (dSetA f cs v g) y η st = y η ((st ++ [ct]).set n (.obj c (putD f (.cell st.length) ds))) := by
    have : dSetA f cs v g η st = .ok (.nx, η, (st ++ [ct]).set n (.obj c (putD f (.cell st.length) ds))) := by
      unfold dSetA
      rw [hv st o, bind_ok]
      dsimp only
      rw [hg, bind_ok]
      dsimp only
      rw [hn2]
      dsimp only
      rw [if_pos ⟨hc, by rw [hlen]; exact hz⟩]
    unfold dSeq
    rw [this]; rfl
  rw [e]
  refine hk _ (o.mod h0 (fun r h => by cases h) fun ids at1 nd1 => ?_)
  have lt1 := at1.lt
  obtain ⟨ds', is', rfl, hn', ha'⟩ := obj_root at1
  rw [hn] at hn'
  cases hn'
  have hin := List.nodup_cons.mp nd1
  have hfr : ∀ i, i < st.length → i ≠ n → ((st ++ [ct]).set n (.obj c (putD f (.cell st.length) ds)))[i]? = st[i]? := fun i hi hne => by
    rw [List.getElem?_set_ne (fun z => hne z.symm), List.getElem?_append_left hi]
  refine ⟨n :: (is' ++ [st.length]), ⟨n, _, is' ++ [st.length], rfl, rfl, List.getElem?_set_self (lt_of_at hn2), ?_⟩, ?_, fun i hi => ?_, fun i hi => ?_, fun i hi hx => hfr i hi fun z => hx (by rw [z]; exact List.mem_cons_self)⟩
  · refine atf_newC ?_ (ha'.frame fun i hi => hfr i (lt1 i (List.mem_cons_of_mem _ hi)) fun z => hin.1 (by rw [← z]; exact hi)) hl
    rw [List.getElem?_set_ne (by omega)]
    simp
  · rw [List.nodup_cons, List.nodup_append]
    refine ⟨fun z => ?_, hin.2, by simp, fun a ha b hb => ?_⟩
    · rcases List.mem_append.mp z with z | z
      · exact hin.1 z
      · simp at z; omega
    · have := lt1 a (List.mem_cons_of_mem _ ha)
      simp at hb
      omega
  · rcases List.mem_cons.mp hi with z | z
    · exact .inl (by rw [z]; exact List.mem_cons_self)
    · rcases List.mem_append.mp z with z | z
      · exact .inl (List.mem_cons_of_mem _ z)
      · simp at z; right; omega
  · rcases List.mem_cons.mp hi with z | z
    · rw [z]; exact List.mem_cons_self
    · exact List.mem_cons_of_mem _ (List.mem_append_left _ z)
end
end N
end
section
set_option Elab.async false
set_option linter.all false
set_option maxRecDepth 100000
set_option maxHeartbeats 0
namespace N
open PySem L2 M
variable {α β γ δ σ τ κ : Type}
section
variable {st st1 st2 : Sr} {R : List Nat}
def chC (st : Sr) (i : Nat) : List Nat := match st[i]? with
  | some c => cellsC c
  | none => []
theorem ad_mem : ∀ (ns acc : List Nat) {x : Nat}, x ∈ addNew acc ns ↔ x ∈ acc ∨ x ∈ ns
  | [], acc, x => by simp [addNew]
  | n :: ns, acc, x => by
    unfold addNew
    by_cases h : n ∈ acc
    · rw [if_pos h, ad_mem ns acc, List.mem_cons]
      constructor
      · rintro (z | z)
        · exact .inl z
        · exact .inr (.inr z)
      · rintro (z | rfl | z)
        · exact .inl z
        · exact .inl h
        · exact .inr z
    · rw [if_neg h, ad_mem ns _, List.mem_append, List.mem_singleton, List.mem_cons, or_assoc]
theorem ad_nd : ∀ (ns acc : List Nat), acc.Nodup → (addNew acc ns).Nodup
  | [], acc, h => by unfold addNew; exact h
  | n :: ns, acc, h => by
    unfold addNew
    by_cases q : n ∈ acc
    · rw [if_pos q]; exact ad_nd ns acc h
    · rw [if_neg q]
      refine ad_nd ns _ (List.nodup_append.mpr ⟨h, by simp, fun a ha b hb => ?_⟩)
      rw [List.mem_singleton.mp hb]
      rintro rfl
      exact q ha
theorem ad_pre : ∀ (ns acc : List Nat), ∃ r, addNew acc ns = acc ++ r
  | [], acc => ⟨[], by unfold addNew; simp⟩
  | n :: ns, acc => by
    unfold addNew
    by_cases q : n ∈ acc
    · rw [if_pos q]; exact ad_pre ns acc
    · rw [if_neg q]
      obtain ⟨r, e⟩ := ad_pre ns (acc ++ [n])
      exact ⟨n :: r, by rw [e]; simp⟩
theorem ad_id : ∀ (ns acc : List Nat), (acc ++ ns).Nodup → addNew acc ns = acc ++ ns
  | [], acc, _ => by unfold addNew; simp
  | n :: ns, acc, h => by
    unfold addNew
    have : n ∉ acc := fun q => (List.nodup_append.mp h).2.2 n q n List.mem_cons_self rfl
    rw [if_neg this, ad_id ns (acc ++ [n]) (by simpa using h)]
    simp
theorem gr_eq (i : Nat) (is acc : List Nat) : grow st acc (i :: is) = grow st (addNew acc (chC st i)) is := by
  show grow st (match st[i]? with | some c => addNew acc (cellsC c) | none => acc) is = _
  unfold chC
  cases st[i]? with
  | some c => rfl
  | none => rfl
theorem gr_mem : ∀ (is acc : List Nat) {x : Nat}, x ∈ grow st acc is ↔ x ∈ acc ∨ ∃ i ∈ is, x ∈ chC st i
  | [], acc, x => by
    show x ∈ acc ↔ _
    simp
  | i :: is, acc, x => by
    rw [gr_eq, gr_mem is, ad_mem]
    constructor
    · rintro ((z | z) | ⟨j, h1, h2⟩)
      · exact .inl z
      · exact .inr ⟨i, List.mem_cons_self, z⟩
      · exact .inr ⟨j, List.mem_cons_of_mem _ h1, h2⟩
    · rintro (z | ⟨j, h1, h2⟩)
      · exact .inl (.inl z)
      · rcases List.mem_cons.mp h1 with rfl | h1
        · exact .inl (.inr h2)
        · exact .inr ⟨j, h1, h2⟩
theorem gr_nd : ∀ (is acc : List Nat), acc.Nodup → (grow st acc is).Nodup
  | [], acc, h => h
  | i :: is, acc, h => by rw [gr_eq]; exact gr_nd is _ (ad_nd _ _ h)
theorem gr_pre : ∀ (is acc : List Nat), ∃ r, grow st acc is = acc ++ r
  | [], acc => ⟨[], (List.append_nil _).symm⟩
  | i :: is, acc => by
    rw [gr_eq]
    obtain ⟨r, e⟩ := gr_pre is (addNew acc (chC st i))
    obtain ⟨r2, e2⟩ := ad_pre (chC st i) acc
    exact ⟨r2 ++ r, by rw [e, e2, List.append_assoc]⟩
theorem rc_eq {is : List Nat} (h : is ≠ []) (nd : is.Nodup) : reach st is = grow st (grow st is is) (grow st is is) := by
  cases is with
  | nil => exact absurd rfl h
  | cons i is =>
    show grow st (grow st (addNew [] (i :: is)) (addNew [] (i :: is))) (grow st (addNew [] (i :: is)) (addNew [] (i :: is))) = _
    rw [ad_id _ [] (by simpa using nd), List.nil_append]
theorem rc_nd {is : List Nat} (h : is ≠ []) (nd : is.Nodup) : (reach st is).Nodup := by
  rw [rc_eq h nd]; exact gr_nd _ _ (gr_nd _ _ nd)
theorem rc_pre {is : List Nat} (h : is ≠ []) (nd : is.Nodup) : ∃ r, reach st is = is ++ r := by
  rw [rc_eq h nd]
  obtain ⟨r, e⟩ := gr_pre (st := st) is is
  obtain ⟨r2, e2⟩ := gr_pre (st := st) (grow st is is) (grow st is is)
  exact ⟨r ++ r2, by rw [e2]; rw [show grow st is is = is ++ r from e, List.append_assoc]⟩
theorem rc_mem {is : List Nat} (h : is ≠ []) (nd : is.Nodup) {x : Nat} : x ∈ reach st is ↔ (x ∈ is ∨ ∃ i ∈ is, x ∈ chC st i) ∨ ∃ j, (j ∈ is ∨ ∃ i ∈ is, j ∈ chC st i) ∧ x ∈ chC st j := by
  rw [rc_eq h nd, gr_mem, gr_mem]
  refine or_congr Iff.rfl ⟨?_, ?_⟩
  · rintro ⟨j, h1, h2⟩
    exact ⟨j, (gr_mem _ _).mp h1, h2⟩
  · rintro ⟨j, h1, h2⟩
    exact ⟨j, (gr_mem _ _).mpr h1, h2⟩
/-- a tree of at most k floors -/
def Dep : Nat → Tr → Prop
  | _, .c ct => flatC ct = true
  | _, .v _ => True
  | k + 1, .obj _ fs => ∀ x ∈ fs, Dep k x.2
  | _, _ => False
theorem flat_cells {c : Ct} (h : flatC c = true) : cellsC c = [] := by cases c <;> first | rfl | cases h
theorem flat_ren {c : Ct} (h : flatC c = true) : renC R c = some c := by cases c <;> first | rfl | cases h
theorem flat_bk {c : Ct} {n : Nat} (h : flatC c = true) : bkC R n c = c := by cases c <;> first | rfl | cases h
theorem at_root {k : Nat} {t : Tr} {d : D} {ids : List Nat} (hd : Dep k t) (a : At st t d ids) : ∀ x ∈ cellsD d, x ∈ ids := by
  cases t with
  | c ct => obtain ⟨n, rfl, rfl, _⟩ := a; exact fun x hx => hx
  | v p => obtain ⟨rfl, rfl⟩ := a; exact fun x hx => hx
  | obj cl fs =>
    obtain ⟨n, ds, is, rfl, rfl, _⟩ := a
    exact fun x hx => by rw [show x = n from List.mem_singleton.mp hx]; exact List.mem_cons_self
  | ls xs => cases k <;> exact hd.elim
  | base r => cases k <;> exact hd.elim
theorem atf_root {k : Nat} : ∀ {fs : List (Str × Tr)} {ds : List (Str × D)} {is : List Nat}, (∀ x ∈ fs, Dep k x.2) → AtF st fs ds is → ∀ x ∈ cellsF ds, x ∈ is
  | [], ds, is, _, a => by obtain ⟨rfl, rfl⟩ := a; exact fun x hx => hx
  | (f, t) :: fs, ds, is, h, a => by
    obtain ⟨d, r, i, j, rfl, rfl, a1, a2⟩ := a
    intro x hx
    rcases List.mem_append.mp (show x ∈ cellsD d ++ cellsF r from hx) with z | z
    · exact List.mem_append_left _ (at_root (h _ List.mem_cons_self) a1 x z)
    · exact List.mem_append_right _ (atf_root (fun y hy => h y (List.mem_cons_of_mem _ hy)) a2 x z)
theorem atf_all {P : Tr → Prop} {Q : Nat → List Nat → Prop} (hq : ∀ x a b, (∀ y, y ∈ a → y ∈ b) → Q x a → Q x b) (ih : ∀ t d ids, P t → At st t d ids → ∀ x ∈ ids, Q x ids) : ∀ {fs : List (Str × Tr)} {ds : List (Str × D)} {is : List Nat}, (∀ x ∈ fs, P x.2) → AtF st fs ds is → ∀ x ∈ is, Q x is
  | [], ds, is, _, a => by obtain ⟨rfl, rfl⟩ := a; exact fun x hx => by cases hx
  | (f, t) :: fs, ds, is, h, a => by
    obtain ⟨d, r, i, j, rfl, rfl, a1, a2⟩ := a
    intro x hx
    rcases List.mem_append.mp hx with z | z
    · exact hq x i _ (fun y hy => List.mem_append_left _ hy) (ih t d i (h _ List.mem_cons_self) a1 x z)
    · exact hq x j _ (fun y hy => List.mem_append_right _ hy) (atf_all hq ih (fun y hy => h y (List.mem_cons_of_mem _ hy)) a2 x z)
theorem at_closed : ∀ (k : Nat) (t : Tr) (d : D) (ids : List Nat), Dep k t → At st t d ids → ∀ x ∈ ids, ∀ y ∈ chC st x, y ∈ ids
  | k, .c ct, d, ids, hd, a => by
    obtain ⟨n, rfl, rfl, e⟩ := a
    intro x hx y hy
    rw [List.mem_singleton.mp hx] at hy
    unfold chC at hy
    rw [e] at hy
    have hf : flatC ct = true := by cases k <;> exact hd
    dsimp only at hy
    rw [show cellsC ct = [] from flat_cells hf] at hy
    cases hy
  | k, .v p, d, ids, hd, a => by obtain ⟨rfl, rfl⟩ := a; exact fun x hx => by cases hx
  | 0, .obj cl fs, d, ids, hd, a => hd.elim
  | k + 1, .obj cl fs, d, ids, hd, a => by
    obtain ⟨n, ds, is, rfl, rfl, e, a2⟩ := a
    have hd : ∀ x ∈ fs, Dep k x.2 := hd
    intro x hx y hy
    rcases List.mem_cons.mp hx with rfl | hx
    · unfold chC at hy
      rw [e] at hy
      exact List.mem_cons_of_mem _ (atf_root hd a2 y hy)
    · exact List.mem_cons_of_mem _ (atf_all (P := Dep k) (Q := fun x l => ∀ y ∈ chC st x, y ∈ l) (fun x a b h q y hy => h y (q y hy)) (fun t d ids => at_closed k t d ids) hd a2 x hx y hy)
  | k, .ls xs, d, ids, hd, a => by cases k <;> exact hd.elim
  | k, .base r, d, ids, hd, a => by cases k <;> exact hd.elim
def Rch (st : Sr) : Nat → D → Nat → Prop
  | 0, d, x => x ∈ cellsD d
  | k + 1, d, x => x ∈ cellsD d ∨ ∃ n y, d = .cell n ∧ y ∈ chC st n ∧ Rch st k (.cell y) x
theorem rch_fz {k : Nat} {p : P} {x : Nat} (h : Rch st k (.fz p) x) : False := by
  cases k with
  | zero => cases h
  | succ k =>
    rcases h with h | ⟨n, y, h, _⟩
    · cases h
    · cases h
theorem rch_self {k n : Nat} : Rch st k (.cell n) n := by
  cases k with
  | zero => exact List.mem_singleton.mpr rfl
  | succ k => exact .inl (List.mem_singleton.mpr rfl)
theorem atf_rch {k : Nat} (ih : ∀ t d ids, Dep k t → At st t d ids → ∀ x ∈ ids, Rch st k d x) : ∀ {fs : List (Str × Tr)} {ds : List (Str × D)} {is : List Nat}, (∀ x ∈ fs, Dep k x.2) → AtF st fs ds is → ∀ x ∈ is, ∃ y ∈ cellsF ds, Rch st k (.cell y) x
  | [], ds, is, _, a => by obtain ⟨rfl, rfl⟩ := a; exact fun x hx => by cases hx
  | (f, t) :: fs, ds, is, h, a => by
    obtain ⟨d, r, i, j, rfl, rfl, a1, a2⟩ := a
    intro x hx
    rcases List.mem_append.mp hx with z | z
    · have q := ih t d i (h _ List.mem_cons_self) a1 x z
      cases d with
      | fz p => exact (rch_fz q).elim
      | cell y => exact ⟨y, List.mem_append_left _ (List.mem_singleton.mpr rfl), q⟩
    · obtain ⟨y, h1, h2⟩ := atf_rch ih (fun y hy => h y (List.mem_cons_of_mem _ hy)) a2 x z
      exact ⟨y, List.mem_append_right _ h1, h2⟩
theorem at_rch : ∀ (k : Nat) (t : Tr) (d : D) (ids : List Nat), Dep k t → At st t d ids → ∀ x ∈ ids, Rch st k d x
  | k, .c ct, d, ids, hd, a => by
    obtain ⟨n, rfl, rfl, e⟩ := a
    intro x hx
    rw [List.mem_singleton.mp hx]; exact rch_self
  | k, .v p, d, ids, hd, a => by obtain ⟨rfl, rfl⟩ := a; exact fun x hx => by cases hx
  | 0, .obj cl fs, d, ids, hd, a => hd.elim
  | k + 1, .obj cl fs, d, ids, hd, a => by
    obtain ⟨n, ds, is, rfl, rfl, e, a2⟩ := a
    have hd : ∀ x ∈ fs, Dep k x.2 := hd
    intro x hx
    rcases List.mem_cons.mp hx with rfl | hx
    · exact rch_self
    · obtain ⟨y, h1, h2⟩ := atf_rch (fun t d ids => at_rch k t d ids) hd a2 x hx
      refine .inr ⟨n, y, rfl, ?_, h2⟩
      unfold chC
      rw [e]; exact h1
  | k, .ls xs, d, ids, hd, a => by cases k <;> exact hd.elim
  | k, .base r, d, ids, hd, a => by cases k <;> exact hd.elim
theorem rch_in {is : List Nat} (h : is ≠ []) (nd : is.Nodup) {n x : Nat} (hn : n ∈ is) (r : Rch st 2 (.cell n) x) : x ∈ reach st is := by
  rw [rc_mem h nd]
  rcases r with r | ⟨m, y, e, hy, r⟩
  · rw [show x = n from List.mem_singleton.mp r]; exact .inl (.inl hn)
  · cases e
    rcases r with r | ⟨m, z, e, hz, r⟩
    · rw [show x = y from List.mem_singleton.mp r]; exact .inl (.inr ⟨n, hn, hy⟩)
    · cases e
      rw [show x = z from List.mem_singleton.mp r]; exact .inr ⟨y, .inr ⟨n, hn, hy⟩, hz⟩
def ixD (R : List Nat) (n : Nat) : Nat := (M.idx n R).getD 0
theorem idx_in {n : Nat} (h : n ∈ R) : M.idx n R = some (ixD R n) ∧ R[ixD R n]? = some n := by
  unfold ixD
  cases q : M.idx n R with
  | none => exact absurd h (idx_none q)
  | some j => exact ⟨rfl, idx_get q⟩
theorem ixD_inj {a b : Nat} (ha : a ∈ R) (hb : b ∈ R) (e : ixD R a = ixD R b) : a = b := by
  have h1 := (idx_in ha).2
  have h2 := (idx_in hb).2
  rw [e, h2] at h1
  exact (Option.some.inj h1).symm
theorem ixD_at (nd : R.Nodup) {j n : Nat} (h : R[j]? = some n) : ixD R n = j := by
  have hn := List.mem_of_getElem? h
  have h2 := (idx_in hn).2
  have hl := (List.getElem?_eq_some_iff.mp h2).1
  exact (List.getElem?_inj hl nd).mp (h2.trans h.symm)
theorem renF_some : ∀ {ds : List (Str × D)}, (∀ x ∈ cellsF ds, x ∈ R) → ∃ ds', renF R ds = some ds'
  | [], _ => ⟨[], rfl⟩
  | (k, d) :: ds, h => by
    obtain ⟨ds', e⟩ := renF_some (ds := ds) fun x hx => h x (List.mem_append_right _ hx)
    cases d with
    | fz p => exact ⟨(k, .fz p) :: ds', by unfold renF ren; rw [e]⟩
    | cell n =>
      have hn := (idx_in (h n (List.mem_append_left _ (List.mem_singleton.mpr rfl)))).1
      exact ⟨(k, .cell (ixD R n)) :: ds', by unfold renF; rw [e, show ren R (.cell n) = some (.cell (ixD R n)) by (show (M.idx n R).map D.cell = _; rw [hn]; rfl)]⟩
theorem at_ren : ∀ (k : Nat) (t : Tr) (d : D) (ids : List Nat), Dep k t → At st t d ids → (∀ i ∈ ids, i ∈ R) → ∀ i ∈ ids, ∃ c c', st[i]? = some c ∧ renC R c = some c'
  | k, .c ct, d, ids, hd, a, hR => by
    obtain ⟨n, rfl, rfl, e⟩ := a
    intro x hx
    rw [List.mem_singleton.mp hx]
    have hf : flatC ct = true := by cases k <;> exact hd
    exact ⟨ct, ct, e, flat_ren hf⟩
  | k, .v p, d, ids, hd, a, hR => by obtain ⟨rfl, rfl⟩ := a; exact fun x hx => by cases hx
  | 0, .obj cl fs, d, ids, hd, a, hR => hd.elim
  | k + 1, .obj cl fs, d, ids, hd, a, hR => by
    obtain ⟨n, ds, is, rfl, rfl, e, a2⟩ := a
    have hd : ∀ x ∈ fs, Dep k x.2 := hd
    intro x hx
    rcases List.mem_cons.mp hx with rfl | hx
    · obtain ⟨ds', e2⟩ := renF_some (R := R) (ds := ds) fun y hy => hR y (List.mem_cons_of_mem _ (atf_root hd a2 y hy))
      exact ⟨_, .obj cl ds', e, by show (renF R ds).map (Ct.obj cl) = _; rw [e2]; rfl⟩
    · refine atf_all (P := Dep k) (Q := fun x l => (∀ y ∈ l, y ∈ R) → ∃ c c', st[x]? = some c ∧ renC R c = some c') (fun x a b h q hb => q fun y hy => hb y (h y hy)) (fun t d ids p a x hx hr => at_ren k t d ids p a hr x hx) hd a2 x hx fun y hy => hR y (List.mem_cons_of_mem _ hy)
  | k, .ls xs, d, ids, hd, a, hR => by cases k <;> exact hd.elim
  | k, .base r, d, ids, hd, a, hR => by cases k <;> exact hd.elim
theorem sub_some : ∀ (is : List Nat), (∀ i ∈ is, ∃ c c', st[i]? = some c ∧ renC R c = some c') → ∃ cs, subG R st is = some cs
  | [], _ => ⟨[], rfl⟩
  | i :: is, h => by
    obtain ⟨c, c', e1, e2⟩ := h i List.mem_cons_self
    obtain ⟨cs, e3⟩ := sub_some is fun j hj => h j (List.mem_cons_of_mem _ hj)
    exact ⟨c' :: cs, by unfold subG; rw [e1]; dsimp only; rw [e2, e3]⟩
theorem atf_sub {P : Tr → Prop} (ih : ∀ t d ids, P t → At st t d ids → (∀ i ∈ ids, i ∈ R) → ∃ d1, ren R d = some d1 ∧ At st1 t d1 (ids.map (ixD R))) : ∀ {fs : List (Str × Tr)} {ds : List (Str × D)} {is : List Nat}, (∀ x ∈ fs, P x.2) → AtF st fs ds is → (∀ i ∈ is, i ∈ R) → ∃ ds1, renF R ds = some ds1 ∧ AtF st1 fs ds1 (is.map (ixD R))
  | [], ds, is, _, a, _ => by obtain ⟨rfl, rfl⟩ := a; exact ⟨[], rfl, rfl, rfl⟩
  | (f, t) :: fs, ds, is, h, a, hR => by
    obtain ⟨d, r, i, j, rfl, rfl, a1, a2⟩ := a
    obtain ⟨d1, e1, b1⟩ := ih t d i (h _ List.mem_cons_self) a1 fun x hx => hR x (List.mem_append_left _ hx)
    obtain ⟨r1, e2, b2⟩ := atf_sub ih (fun y hy => h y (List.mem_cons_of_mem _ hy)) a2 fun x hx => hR x (List.mem_append_right _ hx)
    refine ⟨(f, d1) :: r1, by unfold renF; rw [e1, e2], d1, r1, i.map (ixD R), j.map (ixD R), rfl, by rw [List.map_append], b1, b2⟩
theorem at_sub (hs : ∀ (j n : Nat), R[j]? = some n → ∃ c c', st[n]? = some c ∧ renC R c = some c' ∧ st1[j]? = some c') : ∀ (k : Nat) (t : Tr) (d : D) (ids : List Nat), Dep k t → At st t d ids → (∀ i ∈ ids, i ∈ R) → ∃ d1, ren R d = some d1 ∧ At st1 t d1 (ids.map (ixD R))
  | k, .c ct, d, ids, hd, a, hR => by
    obtain ⟨n, rfl, rfl, e⟩ := a
    obtain ⟨i1, i2⟩ := idx_in (hR n (List.mem_singleton.mpr rfl))
    obtain ⟨c, c', e1, e2, e3⟩ := hs _ _ i2
    have hf : flatC ct = true := by cases k <;> exact hd
    rw [e] at e1; cases e1
    rw [flat_ren hf] at e2; cases e2
    exact ⟨.cell (ixD R n), by show (M.idx n R).map D.cell = _; rw [i1]; rfl, _, rfl, rfl, e3⟩
  | k, .v p, d, ids, hd, a, hR => by obtain ⟨rfl, rfl⟩ := a; exact ⟨.fz p, rfl, rfl, rfl⟩
  | 0, .obj cl fs, d, ids, hd, a, hR => hd.elim
  | k + 1, .obj cl fs, d, ids, hd, a, hR => by
    obtain ⟨n, ds, is, rfl, rfl, e, a2⟩ := a
    have hd : ∀ x ∈ fs, Dep k x.2 := hd
    obtain ⟨i1, i2⟩ := idx_in (hR n List.mem_cons_self)
    obtain ⟨c, c', e1, e2, e3⟩ := hs _ _ i2
    rw [e] at e1; cases e1
    obtain ⟨ds1, f1, f2⟩ := atf_sub (P := Dep k) (fun t d ids => at_sub hs k t d ids) hd a2 fun i hi => hR i (List.mem_cons_of_mem _ hi)
    have e2 : (renF R ds).map (Ct.obj cl) = some c' := e2
    rw [f1] at e2
    cases e2
    exact ⟨.cell (ixD R n), by show (M.idx n R).map D.cell = _; rw [i1]; rfl, _, ds1, is.map (ixD R), rfl, rfl, e3, f2⟩
  | k, .ls xs, d, ids, hd, a, hR => by cases k <;> exact hd.elim
  | k, .base r, d, ids, hd, a, hR => by cases k <;> exact hd.elim
theorem bk_inj {n : Nat} (nd : R.Nodup) (hR : ∀ i ∈ R, i < n) {i j : Nat} (e : bkN R n i = bkN R n j) : i = j := by
  unfold bkN at e
  cases q1 : R[i]? with
  | some a =>
    rw [q1] at e
    have ha := hR a (List.mem_of_getElem? q1)
    cases q2 : R[j]? with
    | some b =>
      rw [q2] at e
      have e : a = b := e
      rw [← e] at q2
      exact (List.getElem?_inj (List.getElem?_eq_some_iff.mp q1).1 nd).mp (q1.trans q2.symm)
    | none =>
      rw [q2] at e
      have e : a = n + (j - R.length) := e
      omega
  | none =>
    rw [q1] at e
    have h1 := List.getElem?_eq_none_iff.mp q1
    cases q2 : R[j]? with
    | some b =>
      rw [q2] at e
      have hb := hR b (List.mem_of_getElem? q2)
      have e : n + (i - R.length) = b := e
      omega
    | none =>
      rw [q2] at e
      have h2 := List.getElem?_eq_none_iff.mp q2
      have e : n + (i - R.length) = n + (j - R.length) := e
      omega
theorem back_get (nd : R.Nodup) (hR : ∀ i ∈ R, i < st.length) (hl : R.length ≤ st2.length) {i : Nat} {c : Ct} (hi : st2[i]? = some c) : (backS R st st2)[bkN R st.length i]? = some (bkC R st.length c) := by
  have hil := (List.getElem?_eq_some_iff.mp hi).1
  unfold backS bkN
  cases q : R[i]? with
  | some k =>
    have hk := hR k (List.mem_of_getElem? q)
    have hiR := (List.getElem?_eq_some_iff.mp q).1
    dsimp only
    rw [List.getElem?_append_left (by rw [putAll_len]; exact hk), putAll_get nd (by rw [List.length_map, List.length_take]; omega) hk]
    have e1 : M.idx k R = some i := by
      have := (idx_in (List.mem_of_getElem? q)).1
      rw [this, ixD_at nd q]
    rw [e1]
    dsimp only
    rw [List.getElem?_map, List.getElem?_take_of_lt hiR, hi]; rfl
  | none =>
    have hiR := List.getElem?_eq_none_iff.mp q
    dsimp only
    rw [List.getElem?_append_right (by rw [putAll_len]; omega), putAll_len, List.getElem?_map, List.getElem?_drop, show R.length + (st.length + (i - R.length) - st.length) = i by omega, hi]; rfl
theorem back_old (nd : R.Nodup) (hl : R.length ≤ st2.length) {i : Nat} (hi : i < st.length) (hn : i ∉ R) : (backS R st st2)[i]? = st[i]? := by
  unfold backS
  rw [List.getElem?_append_left (by rw [putAll_len]; exact hi), putAll_get nd (by rw [List.length_map, List.length_take]; omega) hi]
  cases q : M.idx i R with
  | none => rfl
  | some j => exact absurd (List.mem_of_getElem? (idx_get q)) hn
theorem atf_back {P : Tr → Prop} {n : Nat} (ih : ∀ t d ids, P t → At st2 t d ids → At st1 t (bkD R n d) (ids.map (bkN R n))) : ∀ {fs : List (Str × Tr)} {ds : List (Str × D)} {is : List Nat}, (∀ x ∈ fs, P x.2) → AtF st2 fs ds is → AtF st1 fs (bkF R n ds) (is.map (bkN R n))
  | [], ds, is, _, a => by obtain ⟨rfl, rfl⟩ := a; exact ⟨rfl, rfl⟩
  | (f, t) :: fs, ds, is, h, a => by
    obtain ⟨d, r, i, j, rfl, rfl, a1, a2⟩ := a
    exact ⟨_, _, _, _, rfl, by rw [List.map_append], ih t d i (h _ List.mem_cons_self) a1, atf_back ih (fun y hy => h y (List.mem_cons_of_mem _ hy)) a2⟩
theorem at_back {n : Nat} (hb : ∀ i c, st2[i]? = some c → st1[bkN R n i]? = some (bkC R n c)) : ∀ (k : Nat) (t : Tr) (d : D) (ids : List Nat), Dep k t → At st2 t d ids → At st1 t (bkD R n d) (ids.map (bkN R n))
  | k, .c ct, d, ids, hd, a => by
    obtain ⟨m, rfl, rfl, e⟩ := a
    have hf : flatC ct = true := by cases k <;> exact hd
    exact ⟨_, rfl, rfl, by rw [hb m ct e, flat_bk hf]⟩
  | k, .v p, d, ids, hd, a => by obtain ⟨rfl, rfl⟩ := a; exact ⟨rfl, rfl⟩
  | 0, .obj cl fs, d, ids, hd, a => hd.elim
  | k + 1, .obj cl fs, d, ids, hd, a => by
    obtain ⟨m, ds, is, rfl, rfl, e, a2⟩ := a
    have hd : ∀ x ∈ fs, Dep k x.2 := hd
    exact ⟨_, bkF R n ds, is.map (bkN R n), rfl, rfl, by rw [hb m _ e]; rfl, atf_back (P := Dep k) (fun t d ids => at_back hb k t d ids) hd a2⟩
  | k, .ls xs, d, ids, hd, a => by cases k <;> exact hd.elim
  | k, .base r, d, ids, hd, a => by cases k <;> exact hd.elim
end
end N
end
section
set_option Elab.async false
set_option linter.all false
set_option maxRecDepth 100000
set_option maxHeartbeats 0
namespace N
open PySem L2 M
variable {α β γ δ σ τ κ : Type}
structure SpO [Em τ] (tr : κ → Tr) (t0 : Tr) (m : Rs (τ × κ)) (F : DF) (as : List P) : Prop where
  h : ∀ st : Sr, Own [(st.length, .base 1), (0, t0)] st → match m with
  | .ok g => ∃ st', F (.cell 0 :: as.map D.fz) st = .ok (.fz (em g.1), st') ∧ st.length ≤ st'.length ∧ Own [(st.length, .base 1), (0, tr g.2)] st'
  | .exc c fs => ∃ st', F (.cell 0 :: as.map D.fz) st = .exc c fs [] st' ∧ st.length ≤ st'.length ∧ Own [(st.length, .base 1), (0, t0)] st'
  | .stuck => True
theorem cells_fz : ∀ as : List P, cellsA (as.map D.fz) = []
  | [] => rfl
  | p :: as => by
    show [] ++ cellsA (as.map D.fz) = []
    rw [cells_fz as]; rfl
theorem renA_fz {R : List Nat} : ∀ as : List P, renA R (as.map D.fz) = some (as.map D.fz)
  | [] => rfl
  | p :: as => by rw [List.map_cons]; unfold renA; rw [renA_fz as]; rfl
theorem dep_nb {k : Nat} {t : Tr} (h : Dep k t) : ∀ r, t ≠ .base r := fun r e => by subst e; cases k <;> exact h.elim
section
variable {L : Ow} {st : Sr} {t0 : Tr} {kp n : Nat}
/-- the part that a call gets, and how what it leaves goes back -/
theorem part_of (o : Own L st) (h0 : L[kp]? = some (n, t0)) (d0 : Dep 2 t0) : ∃ (R : List Nat) (st1 : Sr), reach st [n] = R ∧ R.Nodup ∧ subS R st = some st1 ∧ st1.length = R.length ∧ R[0]? = some n ∧ Own [(st1.length, .base 1), (0, t0)] st1 ∧
    ∀ (st2 : Sr) (t' : Tr), Dep 2 t' → st1.length ≤ st2.length → Own [(st1.length, .base 1), (0, t')] st2 → Own (L.set kp (n, t')) (backS R st st2) := by
  obtain ⟨ids, a, nd⟩ := o.tree h0
  have hne : [n] ≠ [] := by simp
  have hnd1 : [n].Nodup := by simp
  obtain ⟨r, er⟩ := rc_pre (st := st) hne hnd1
  have ndR : (reach st [n]).Nodup := rc_nd hne hnd1
  have hn0 : n ∈ ids := at_root d0 a n (List.mem_singleton.mpr rfl)
  have hcl := at_closed 2 t0 _ _ d0 a
  have hmem : ∀ x, x ∈ reach st [n] ↔ x ∈ ids := fun x => by
    constructor
    · intro hx
      rw [rc_mem hne hnd1] at hx
      have h1 : ∀ y, (y ∈ [n] ∨ ∃ i ∈ [n], y ∈ chC st i) → y ∈ ids := fun y hy => by
        rcases hy with hy | ⟨i, hi, hy⟩
        · rw [List.mem_singleton.mp hy]; exact hn0
        · rw [List.mem_singleton.mp hi] at hy; exact hcl n hn0 y hy
      rcases hx with hx | ⟨j, hj, hx⟩
      · exact h1 x hx
      · exact hcl j (h1 j hj) x hx
    · intro hx
      exact rch_in hne hnd1 (List.mem_singleton.mpr rfl) (at_rch 2 t0 _ _ d0 a x hx)
  generalize hR : reach st [n] = R at *
  have hRn : R[0]? = some n := by rw [er]; rfl
  have hids : ∀ i ∈ ids, i ∈ R := fun i hi => (hmem i).mpr hi
  have hlt : ∀ i ∈ R, i < st.length := fun i hi => a.lt i ((hmem i).mp hi)
  obtain ⟨st1, e1⟩ := sub_some (st := st) (R := R) R fun i hi => at_ren 2 t0 _ _ d0 a hids i ((hmem i).mp hi)
  obtain ⟨g1, g2⟩ := subG_get e1
  obtain ⟨d1, f1, f2⟩ := at_sub (st1 := st1) g2 2 t0 _ _ d0 a hids
  have hix : ixD R n = 0 := ixD_at ndR hRn
  have ed1 : d1 = .cell 0 := by
    have : ren R (.cell n) = some (.cell (ixD R n)) := by show (M.idx n R).map D.cell = _; rw [(idx_in (hids n hn0)).1]; rfl
    rw [this, hix] at f1
    exact (Option.some.inj f1).symm
  subst ed1
  refine ⟨R, st1, rfl, ndR, e1, g1, hRn, ⟨[[], ids.map (ixD R)], rfl, ?_, fun k m t js hk hw => ?_, fun m r2 e i hi => ?_⟩, fun st2 t' d' hl o2 => ?_⟩
  · simp only [List.flatten_cons, List.flatten_nil, List.nil_append, List.append_nil]
    exact List.pairwise_map.mpr (nd.imp_of_mem fun {x y} hx hy hne e => hne (ixD_inj (hids x hx) (hids y hy) e))
  · match k, hk, hw with
    | 0, hk, hw => cases hk; cases hw; exact rfl
    | 1, hk, hw => cases hk; cases hw; exact f2
  · cases e
    have hiR : i < R.length := by rw [← g1]; exact hi
    have hx := List.getElem?_eq_getElem hiR
    refine .inl ?_
    show i ∈ [[], ids.map (ixD R)].flatten
    simp only [List.flatten_cons, List.flatten_nil, List.nil_append, List.append_nil]
    exact List.mem_map.mpr ⟨R[i], (hmem _).mp (List.getElem_mem hiR), ixD_at ndR hx⟩
  · have hRl : R.length ≤ st2.length := by rw [← g1]; exact hl
    obtain ⟨w2, ow⟩ := o2
    have hw2 : w2.length = 2 := ow.len
    have hwb : ∃ js, w2 = [[], js] := by
      match w2, hw2 with
      | [x, y], _ =>
        have : x = [] := ow.at_ 0 _ _ x rfl rfl
        exact ⟨y, by rw [this]⟩
    obtain ⟨js, rfl⟩ := hwb
    have a2 : At st2 t' (.cell 0) js := ow.at_ 1 _ _ js rfl rfl
    have nd2 : js.Nodup := by
      have := ow.nd
      simpa using this
    have hb : ∀ i c, st2[i]? = some c → (backS R st st2)[bkN R st.length i]? = some (bkC R st.length c) := fun i c hi => back_get ndR hlt hRl hi
    have b2 := at_back (R := R) (n := st.length) hb 2 t' _ _ d' a2
    have e0 : bkD R st.length (.cell 0) = .cell n := by
      show D.cell (bkN R st.length 0) = _
      unfold bkN
      rw [hRn]
    rw [e0] at b2
    refine o.modG h0 (dep_nb d') fun ids' a' nd' => ?_
    have hi' : ids' = ids := at_ids a' a
    subst hi'
    refine ⟨js.map (bkN R st.length), b2, List.pairwise_map.mpr (nd2.imp fun {x y} hne e => hne (bk_inj ndR hlt e)), fun i hi => ?_, .inr fun i hi => ?_, fun i hi hn => back_old ndR hRl hi fun q => hn ((hmem i).mp q)⟩
    · obtain ⟨j, hj, rfl⟩ := List.mem_map.mp hi
      unfold bkN
      cases q : R[j]? with
      | some k => exact .inl ((hmem k).mp (List.mem_of_getElem? q))
      | none => exact .inr (by dsimp only; omega)
    · have hj := (idx_in (hids i hi)).2
      have hjl : ixD R i < st1.length := by rw [g1]; exact (List.getElem?_eq_some_iff.mp hj).1
      have ebk : bkN R st.length (ixD R i) = i := by unfold bkN; rw [hj]
      rcases ow.cov _ _ rfl (ixD R i) hjl with z | ⟨_, ct, z2, z3⟩
      · refine .inl (List.mem_map.mpr ⟨ixD R i, ?_, ebk⟩)
        have z : ixD R i ∈ ([[], js] : List (List Nat)).flatten := z
        simpa using z
      · refine .inr ⟨ct, ?_, z3⟩
        have := hb _ _ z2
        rw [ebk, flat_bk z3] at this
        exact this
theorem w_callO [Em τ] {X : XP} {η : Et} {F : DF} {tr : κ → Tr} {m : Rs (τ × κ)} {as : List P} {ds : List D} (kp : Nat) (h : SpO tr t0 m F as) (hd : ds = .cell n :: as.map D.fz) (h0 : L[kp]? = some (n, t0)) (d0 : Dep 2 t0) (d1 : ∀ s, Dep 2 (tr s)) (hx : ∀ st, Own L st → X η st) :
    Wk L m (fun st => callF F ds η st) (PV (fun g => fe g.1) fun g => L.set kp (n, tr g.2)) X := fun st o => by
  subst hd
  obtain ⟨R, st1, e0, ndR, e1, hl1, hRn, o1, back⟩ := part_of o h0 d0
  have h := h.h st1 o1
  have hren : renA R (.cell n :: as.map D.fz) = some (.cell 0 :: as.map D.fz) := by
    have hn := List.mem_of_getElem? hRn
    have h1 := (idx_in hn).1
    rw [ixD_at ndR hRn] at h1
    have h2 : ren R (.cell n) = some (.cell 0) := by
      show (M.idx n R).map D.cell = _
      rw [h1]; rfl
    show (match ren R (.cell n), renA R (as.map D.fz) with | some d', some ds' => some (d' :: ds') | _, _ => none) = _
    rw [renA_fz, h2]
  have hcall : callF F (.cell n :: as.map D.fz) η st = match F (.cell 0 :: as.map D.fz) st1 with
      | .ok (d, st2) => if R.length ≤ st2.length then .ok (bkD R st.length d, backS R st st2) else .stuck
      | .exc c fs _ st2 => if R.length ≤ st2.length then .exc c fs η (backS R st st2) else .stuck
      | .stuck => .stuck := by
    show callI F (reach st ([n] ++ cellsA (as.map D.fz))) _ η st = _
    rw [cells_fz, List.append_nil, e0]
    unfold callI
    rw [if_pos ndR, hren, e1] <;> (dsimp only; cases F (.cell 0 :: as.map D.fz) st1 <;> rfl)
  cases m with
  | stuck => trivial
  | exc c fs =>
    obtain ⟨st2, q1, q2, q3⟩ := h
    refine ⟨η, backS R st st2, ?_, hx _ ?_⟩
    · show callF F (.cell n :: as.map D.fz) η st = _
      rw [hcall, q1]
      dsimp only
      rw [if_pos (by rw [← hl1]; exact q2)]
    · have := back st2 t0 d0 q2 q3
      have e : L.set kp (n, t0) = L := by
        refine List.ext_getElem? fun j => ?_
        by_cases q : kp = j
        · subst q
          rw [List.getElem?_set_self (List.getElem?_eq_some_iff.mp h0).1, h0]
        · rw [List.getElem?_set_ne q]
      rwa [e] at this
  | ok g =>
    obtain ⟨st2, q1, q2, q3⟩ := h
    refine ⟨(fe g.1, backS R st st2), ?_, rfl, back st2 _ (d1 g.2) q2 q3⟩
    show callF F (.cell n :: as.map D.fz) η st = _
    rw [hcall, q1]
    dsimp only
    rw [if_pos (by rw [← hl1]; exact q2)]
    rfl
end
theorem exitO {mm : Nat} {t : Tr} {rest : Ow} {st : Sr} {p : P} (o : Own ((mm, .base 1) :: (0, t) :: rest) st) (hd : Dep 2 t) (hm : 0 < mm) : ∃ st2, exitI mm (.fz p) st = .ok (.fz p, st2) ∧ mm ≤ st2.length ∧ Own [(mm, .base 1), (0, t)] st2 := by
  obtain ⟨w, ow⟩ := o
  have hwl := ow.len
  obtain ⟨ids, w', rfl⟩ : ∃ ids w', w = [] :: ids :: w' := by
    match w, hwl with
    | x :: y :: w', _ =>
      have : x = [] := ow.at_ 0 _ _ x rfl rfl
      exact ⟨y, w', by rw [this]⟩
  have a : At st t (.cell 0) ids := ow.at_ 1 _ _ ids rfl rfl
  have nd : ids.Nodup := (nodup_flatW.mp ow.nd).1 _ (by simp)
  have hcov : ∀ i, i < mm → i ∈ ids ∨ (i ∉ ids ∧ ∃ c, st[i]? = some c ∧ flatC c = true) := fun i hi => by
    rcases ow.cov _ _ rfl i hi with z | ⟨z1, z2⟩
    · have z : i ∈ ([[], ids] : List (List Nat)).flatten := z
      exact .inl (by simpa using z)
    · exact .inr ⟨fun q => z1 (List.mem_flatten.mpr ⟨ids, by simp, q⟩), z2⟩
  have hne : List.range mm ≠ [] := fun e => by
    have := congrArg List.length e
    simp at this; omega
  have ndm : (List.range mm).Nodup := List.nodup_range
  have hexit : ∀ R, reach st (List.range mm) = R → R.Nodup → R.take mm = List.range mm → ∀ st2, subS R st = some st2 → exitI mm (.fz p) st = .ok (.fz p, st2) := fun R e1 e2 e3 st2 e4 => by
    have e0 : List.range mm ++ cellsD (.fz p) = List.range mm := List.append_nil _
    unfold exitI
    rw [e0, e1, if_pos ⟨e3, e2⟩, e4]
    rfl
  obtain ⟨r, er⟩ := rc_pre (st := st) hne ndm
  have ndR := rc_nd (st := st) hne ndm
  have hcl := at_closed 2 t _ _ hd a
  have hch : ∀ i, i < mm ∨ i ∈ ids → ∀ y ∈ chC st i, y ∈ ids := fun i hi y hy => by
    have : i ∈ ids ∨ (i ∉ ids ∧ ∃ c, st[i]? = some c ∧ flatC c = true) := hi.elim (hcov i) .inl
    rcases this with z | ⟨_, c, z1, z2⟩
    · exact hcl i z y hy
    · unfold chC at hy
      rw [z1] at hy
      dsimp only at hy
      rw [flat_cells z2] at hy
      cases hy
  have hR1 : ∀ x ∈ reach st (List.range mm), x < mm ∨ x ∈ ids := fun x hx => by
    rw [rc_mem hne ndm] at hx
    have h1 : ∀ y, (y ∈ List.range mm ∨ ∃ i ∈ List.range mm, y ∈ chC st i) → y < mm ∨ y ∈ ids := fun y hy => by
      rcases hy with hy | ⟨i, hi, hy⟩
      · exact .inl (List.mem_range.mp hy)
      · exact .inr (hch i (.inl (List.mem_range.mp hi)) y hy)
    rcases hx with hx | ⟨j, hj, hx⟩
    · exact h1 x hx
    · exact .inr (hch j (h1 j hj) x hx)
  have hR2 : ∀ x ∈ ids, x ∈ reach st (List.range mm) := fun x hx => rch_in hne ndm (List.mem_range.mpr hm) (at_rch 2 t _ _ hd a x hx)
  have hexit := hexit _ rfl ndR (by rw [er, List.take_left' (List.length_range ..)])
  generalize reach st (List.range mm) = R at *
  obtain ⟨st2, e1⟩ := sub_some (st := st) (R := R) R fun i hi => by
    have : i ∈ ids ∨ (i ∉ ids ∧ ∃ c, st[i]? = some c ∧ flatC c = true) := (hR1 i hi).elim (hcov i) .inl
    rcases this with z | ⟨_, c, z1, z2⟩
    · exact at_ren 2 t _ _ hd a hR2 i z
    · exact ⟨c, c, z1, flat_ren z2⟩
  obtain ⟨g1, g2⟩ := subG_get e1
  have hR0 : R[0]? = some 0 := by rw [er, List.getElem?_append_left (by simpa using hm), List.getElem?_range hm]
  obtain ⟨d1, f1, f2⟩ := at_sub (st1 := st2) g2 2 t _ _ hd a hR2
  have ed1 : d1 = .cell 0 := by
    have h0 := List.mem_of_getElem? hR0
    have : ren R (.cell 0) = some (.cell (ixD R 0)) := by show (M.idx 0 R).map D.cell = _; rw [(idx_in h0).1]; rfl
    rw [this, ixD_at ndR hR0] at f1
    exact (Option.some.inj f1).symm
  subst ed1
  have hRi : ∀ i, i < mm → R[i]? = some i := fun i hi => by rw [er, List.getElem?_append_left (by simpa using hi), List.getElem?_range hi]
  have hlen : mm ≤ st2.length := by
    rw [g1, er, List.length_append, List.length_range]; omega
  refine ⟨st2, ?_, hlen, [[], ids.map (ixD R)], rfl, ?_, fun k m t js hk hw => ?_, fun m r2 e i hi => ?_⟩
  · exact hexit st2 e1
  · simp only [List.flatten_cons, List.flatten_nil, List.nil_append, List.append_nil]
    exact List.pairwise_map.mpr (nd.imp_of_mem fun {x y} hx hy hne e => hne (ixD_inj (hR2 x hx) (hR2 y hy) e))
  · match k, hk, hw with
    | 0, hk, hw => cases hk; cases hw; exact rfl
    | 1, hk, hw => cases hk; cases hw; exact f2
  · cases e
    have hx := hRi i hi
    rcases hcov i hi with z | ⟨z0, c, z1, z2⟩
    · refine .inl ?_
      show i ∈ [[], ids.map (ixD R)].flatten
      simp only [List.flatten_cons, List.flatten_nil, List.nil_append, List.append_nil]
      exact List.mem_map.mpr ⟨i, z, ixD_at ndR hx⟩
    · refine .inr ⟨fun q => ?_, c, ?_, z2⟩
      · have q : i ∈ [[], ids.map (ixD R)].flatten := q
        simp only [List.flatten_cons, List.flatten_nil, List.nil_append, List.append_nil] at q
        obtain ⟨x, hx1, hx2⟩ := List.mem_map.mp q
        have := (idx_in (hR2 x hx1)).2
        rw [hx2, hx] at this
        exact z0 (by rw [Option.some.inj this]; exact hx1)
      · obtain ⟨c1, c2, e3, e4, e5⟩ := g2 i i hx
        rw [z1] at e3; cases e3
        rw [flat_ren z2] at e4; cases e4
        exact e5
end N
end
section
set_option Elab.async false
set_option linter.all false
set_option maxRecDepth 100000
set_option maxHeartbeats 0
namespace N
open PySem L2 M
variable {α β γ δ σ τ κ : Type}
structure SpOC (tr : κ → Tr) (rt : τ → Tr) (t0 : Tr) (m : Rs (τ × κ)) (F : DF) (as : List P) : Prop where
  h : ∀ st : Sr, Own [(st.length, .base 1), (0, t0)] st → match m with
  | .ok g => ∃ st' k, F (.cell 0 :: as.map D.fz) st = .ok (.cell k, st') ∧ st.length ≤ st'.length ∧ Own [(st.length, .base 1), (0, tr g.2), (k, rt g.1)] st'
  | .exc c fs => ∃ st', F (.cell 0 :: as.map D.fz) st = .exc c fs [] st' ∧ st.length ≤ st'.length ∧ Own [(st.length, .base 1), (0, t0)] st'
  | .stuck => True
/-- a new tree of one's own -/
def PT (rt : γ → Tr) (L' : γ → Ow) : γ → (D × Sr) → Prop := fun g a => ∃ n, a.1 = .cell n ∧ Own (L' g ++ [(n, rt g)]) a.2
section
variable {L : Ow} {st : Sr} {t0 : Tr} {kp n : Nat}
/-- the part that a call gets, and how what it leaves goes back -/
theorem part_of2 (o : Own L st) (h0 : L[kp]? = some (n, t0)) (d0 : Dep 2 t0) : ∃ (R : List Nat) (st1 : Sr), reach st [n] = R ∧ R.Nodup ∧ subS R st = some st1 ∧ st1.length = R.length ∧ R[0]? = some n ∧ Own [(st1.length, .base 1), (0, t0)] st1 ∧
    ∀ (st2 : Sr) (t' t2 : Tr) (k2 : Nat), Dep 2 t' → Dep 2 t2 → st1.length ≤ st2.length → Own [(st1.length, .base 1), (0, t'), (k2, t2)] st2 → Own (L.set kp (n, t') ++ [(bkN R st.length k2, t2)]) (backS R st st2) := by
  obtain ⟨ids, a, nd⟩ := o.tree h0
  have hne : [n] ≠ [] := by simp
  have hnd1 : [n].Nodup := by simp
  obtain ⟨r, er⟩ := rc_pre (st := st) hne hnd1
  have ndR : (reach st [n]).Nodup := rc_nd hne hnd1
  have hn0 : n ∈ ids := at_root d0 a n (List.mem_singleton.mpr rfl)
  have hcl := at_closed 2 t0 _ _ d0 a
  have hmem : ∀ x, x ∈ reach st [n] ↔ x ∈ ids := fun x => by
    constructor
    · intro hx
      rw [rc_mem hne hnd1] at hx
      have h1 : ∀ y, (y ∈ [n] ∨ ∃ i ∈ [n], y ∈ chC st i) → y ∈ ids := fun y hy => by
        rcases hy with hy | ⟨i, hi, hy⟩
        · rw [List.mem_singleton.mp hy]; exact hn0
        · rw [List.mem_singleton.mp hi] at hy; exact hcl n hn0 y hy
      rcases hx with hx | ⟨j, hj, hx⟩
      · exact h1 x hx
      · exact hcl j (h1 j hj) x hx
    · intro hx
      exact rch_in hne hnd1 (List.mem_singleton.mpr rfl) (at_rch 2 t0 _ _ d0 a x hx)
  generalize hR : reach st [n] = R at *
  have hRn : R[0]? = some n := by rw [er]; rfl
  have hids : ∀ i ∈ ids, i ∈ R := fun i hi => (hmem i).mpr hi
  have hlt : ∀ i ∈ R, i < st.length := fun i hi => a.lt i ((hmem i).mp hi)
  obtain ⟨st1, e1⟩ := sub_some (st := st) (R := R) R fun i hi => at_ren 2 t0 _ _ d0 a hids i ((hmem i).mp hi)
  obtain ⟨g1, g2⟩ := subG_get e1
  obtain ⟨d1, f1, f2⟩ := at_sub (st1 := st1) g2 2 t0 _ _ d0 a hids
  have hix : ixD R n = 0 := ixD_at ndR hRn
  have ed1 : d1 = .cell 0 := by
    have : ren R (.cell n) = some (.cell (ixD R n)) := by show (M.idx n R).map D.cell = _; rw [(idx_in (hids n hn0)).1]; rfl
    rw [this, hix] at f1
    exact (Option.some.inj f1).symm
  subst ed1
  refine ⟨R, st1, rfl, ndR, e1, g1, hRn, ⟨[[], ids.map (ixD R)], rfl, ?_, fun k m t js hk hw => ?_, fun m r2 e i hi => ?_⟩, fun st2 t' t2 k2 d' d2 hl o2 => ?_⟩
  · simp only [List.flatten_cons, List.flatten_nil, List.nil_append, List.append_nil]
    exact List.pairwise_map.mpr (nd.imp_of_mem fun {x y} hx hy hne e => hne (ixD_inj (hids x hx) (hids y hy) e))
  · match k, hk, hw with
    | 0, hk, hw => cases hk; cases hw; exact rfl
    | 1, hk, hw => cases hk; cases hw; exact f2
  · cases e
    have hiR : i < R.length := by rw [← g1]; exact hi
    have hx := List.getElem?_eq_getElem hiR
    refine .inl ?_
    show i ∈ [[], ids.map (ixD R)].flatten
    simp only [List.flatten_cons, List.flatten_nil, List.nil_append, List.append_nil]
    exact List.mem_map.mpr ⟨R[i], (hmem _).mp (List.getElem_mem hiR), ixD_at ndR hx⟩
  · have hRl : R.length ≤ st2.length := by rw [← g1]; exact hl
    obtain ⟨w2, ow⟩ := o2
    have hw2 : w2.length = 3 := ow.len
    have hwb : ∃ js ks, w2 = [[], js, ks] := by
      match w2, hw2 with
      | [x, y, z], _ =>
        have : x = [] := ow.at_ 0 _ _ x rfl rfl
        exact ⟨y, z, by rw [this]⟩
    obtain ⟨js, ks, rfl⟩ := hwb
    have a2 : At st2 t' (.cell 0) js := ow.at_ 1 _ _ js rfl rfl
    have a3 : At st2 t2 (.cell k2) ks := ow.at_ 2 _ _ ks rfl rfl
    have nd2 : (js ++ ks).Nodup := by
      have := ow.nd
      simpa using this
    have hks : ∀ i ∈ ks, st1.length ≤ i := fun i hi => by
      rcases Nat.lt_or_ge i st1.length with q | q
      · exfalso
        rcases ow.cov _ _ rfl i q with z | ⟨z1, _⟩
        · have z : i ∈ ([[], js] : List (List Nat)).flatten := z
          have z : i ∈ js := by simpa using z
          exact (List.nodup_append.mp nd2).2.2 i z i hi rfl
        · exact z1 (by simp; exact .inr hi)
      · exact q
    have hb : ∀ i c, st2[i]? = some c → (backS R st st2)[bkN R st.length i]? = some (bkC R st.length c) := fun i c hi => back_get ndR hlt hRl hi
    have b2 := at_back (R := R) (n := st.length) hb 2 t' _ _ d' a2
    have b3 := at_back (R := R) (n := st.length) hb 2 t2 _ _ d2 a3
    have e0 : bkD R st.length (.cell 0) = .cell n := by
      show D.cell (bkN R st.length 0) = _
      unfold bkN
      rw [hRn]
    rw [e0] at b2
    refine o.modN h0 (dep_nb d') (dep_nb d2) fun ids' a' nd' => ?_
    have hi' : ids' = ids := at_ids a' a
    subst hi'
    refine ⟨js.map (bkN R st.length), ks.map (bkN R st.length), b2, b3, ?_, fun i hi => ?_, fun i hi => ?_, .inr fun i hi => ?_, fun i hi hn => back_old ndR hRl hi fun q => hn ((hmem i).mp q)⟩
    · rw [← List.map_append]
      exact List.pairwise_map.mpr (nd2.imp fun {x y} hne e => hne (bk_inj ndR hlt e))
    · obtain ⟨j, hj, rfl⟩ := List.mem_map.mp hi
      unfold bkN
      cases q : R[j]? with
      | some k => exact .inl ((hmem k).mp (List.mem_of_getElem? q))
      | none => exact .inr (by dsimp only; omega)
    · obtain ⟨j, hj, rfl⟩ := List.mem_map.mp hi
      have hjl := hks j hj
      rw [g1] at hjl
      unfold bkN
      rw [List.getElem?_eq_none hjl]
      dsimp only
      omega
    · have hj := (idx_in (hids i hi)).2
      have hjl : ixD R i < st1.length := by rw [g1]; exact (List.getElem?_eq_some_iff.mp hj).1
      have ebk : bkN R st.length (ixD R i) = i := by unfold bkN; rw [hj]
      rcases ow.cov _ _ rfl (ixD R i) hjl with z | ⟨_, ct, z2, z3⟩
      · refine .inl (List.mem_map.mpr ⟨ixD R i, ?_, ebk⟩)
        have z : ixD R i ∈ ([[], js] : List (List Nat)).flatten := z
        simpa using z
      · refine .inr ⟨ct, ?_, z3⟩
        have := hb _ _ z2
        rw [ebk, flat_bk z3] at this
        exact this
theorem w_callOC {X : XP} {η : Et} {F : DF} {tr : κ → Tr} {rt : τ → Tr} {m : Rs (τ × κ)} {as : List P} {ds : List D} (kp : Nat) (h : SpOC tr rt t0 m F as) (hd : ds = .cell n :: as.map D.fz) (h0 : L[kp]? = some (n, t0)) (d0 : Dep 2 t0) (d1 : ∀ s, Dep 2 (tr s)) (d2 : ∀ s, Dep 2 (rt s)) (hx : ∀ st, Own L st → X η st) :
    Wk L m (fun st => callF F ds η st) (PT (fun g => rt g.1) fun g => L.set kp (n, tr g.2)) X := fun st o => by
  subst hd
  obtain ⟨R, st1, e0, ndR, e1, hl1, hRn, o1, back⟩ := part_of2 o h0 d0
  have back1 := part_of o h0 d0
  have h := h.h st1 o1
  have hren : renA R (.cell n :: as.map D.fz) = some (.cell 0 :: as.map D.fz) := by
    have hn := List.mem_of_getElem? hRn
    have h1 := (idx_in hn).1
    rw [ixD_at ndR hRn] at h1
    have h2 : ren R (.cell n) = some (.cell 0) := by
      show (M.idx n R).map D.cell = _
      rw [h1]; rfl
    show (match ren R (.cell n), renA R (as.map D.fz) with | some d', some ds' => some (d' :: ds') | _, _ => none) = _
    rw [renA_fz, h2]
  have hcall : callF F (.cell n :: as.map D.fz) η st = match F (.cell 0 :: as.map D.fz) st1 with
      | .ok (d, st2) => if R.length ≤ st2.length then .ok (bkD R st.length d, backS R st st2) else .stuck
      | .exc c fs _ st2 => if R.length ≤ st2.length then .exc c fs η (backS R st st2) else .stuck
      | .stuck => .stuck := by
    show callI F (reach st ([n] ++ cellsA (as.map D.fz))) _ η st = _
    rw [cells_fz, List.append_nil, e0]
    unfold callI
    rw [if_pos ndR, hren, e1] <;> (dsimp only; cases F (.cell 0 :: as.map D.fz) st1 <;> rfl)
  cases m with
  | stuck => trivial
  | exc c fs =>
    obtain ⟨st2, q1, q2, q3⟩ := h
    refine ⟨η, backS R st st2, ?_, hx _ ?_⟩
    · show callF F (.cell n :: as.map D.fz) η st = _
      rw [hcall, q1]
      dsimp only
      rw [if_pos (by rw [← hl1]; exact q2)]
    · obtain ⟨R', st1', e0', _, e1', _, _, _, back'⟩ := back1
      rw [e0] at e0'
      subst e0'
      rw [e1] at e1'
      cases e1'
      have := back' st2 t0 d0 q2 q3
      have e : L.set kp (n, t0) = L := by
        refine List.ext_getElem? fun j => ?_
        by_cases q : kp = j
        · subst q
          rw [List.getElem?_set_self (List.getElem?_eq_some_iff.mp h0).1, h0]
        · rw [List.getElem?_set_ne q]
      rwa [e] at this
  | ok g =>
    obtain ⟨st2, k2, q1, q2, q3⟩ := h
    refine ⟨(.cell (bkN R st.length k2), backS R st st2), ?_, _, rfl, back st2 _ _ k2 (d1 g.2) (d2 g.1) q2 q3⟩
    show callF F (.cell n :: as.map D.fz) η st = _
    rw [hcall, q1]
    dsimp only
    rw [if_pos (by rw [← hl1]; exact q2)]
    rfl
end
theorem exitOC {mm n : Nat} {t t2 : Tr} {rest : Ow} {st : Sr} (o : Own ((mm, .base 1) :: (0, t) :: (n, t2) :: rest) st) (hd : Dep 2 t) (hd2 : Dep 2 t2) (hm : 0 < mm) : ∃ st2 k, exitI mm (.cell n) st = .ok (.cell k, st2) ∧ mm ≤ st2.length ∧ Own [(mm, .base 1), (0, t), (k, t2)] st2 := by
  obtain ⟨w, ow⟩ := o
  have hwl := ow.len
  obtain ⟨ids, jds, w', rfl⟩ : ∃ ids jds w', w = [] :: ids :: jds :: w' := by
    match w, hwl with
    | x :: y :: z :: w', _ =>
      have : x = [] := ow.at_ 0 _ _ x rfl rfl
      exact ⟨y, z, w', by rw [this]⟩
  have a : At st t (.cell 0) ids := ow.at_ 1 _ _ ids rfl rfl
  have b : At st t2 (.cell n) jds := ow.at_ 2 _ _ jds rfl rfl
  have ndw := ow.nd
  have nd2 : (ids ++ jds).Nodup := by
    have : (ids ++ jds ++ w'.flatten).Nodup := by simpa using ndw
    exact (List.nodup_append.mp this).1
  have hcov : ∀ i, i < mm → i ∈ ids ∨ (i ∉ ids ∧ i ∉ jds ∧ ∃ c, st[i]? = some c ∧ flatC c = true) := fun i hi => by
    rcases ow.cov _ _ rfl i hi with z | ⟨z1, z2⟩
    · have z : i ∈ ([[], ids] : List (List Nat)).flatten := z
      exact .inl (by simpa using z)
    · exact .inr ⟨fun q => z1 (List.mem_flatten.mpr ⟨ids, by simp, q⟩), fun q => z1 (List.mem_flatten.mpr ⟨jds, by simp, q⟩), z2⟩
  have hjm : ∀ i ∈ jds, mm ≤ i := fun i hi => by
    rcases Nat.lt_or_ge i mm with q | q
    · exfalso
      rcases hcov i q with z | ⟨_, z, _⟩
      · exact (List.nodup_append.mp nd2).2.2 i z i hi rfl
      · exact z hi
    · exact q
  have hnj : n ∈ jds := at_root hd2 b n (List.mem_singleton.mpr rfl)
  have hmn := hjm n hnj
  have hne : List.range mm ++ [n] ≠ [] := by simp
  have ndm : (List.range mm ++ [n]).Nodup := List.nodup_append.mpr ⟨List.nodup_range, by simp, fun x hx y hy => by
    have := List.mem_range.mp hx
    rw [List.mem_singleton.mp hy]
    omega⟩
  have hexit : ∀ R, reach st (List.range mm ++ [n]) = R → R.Nodup → R.take mm = List.range mm → ∀ st2 d2, subS R st = some st2 → ren R (.cell n) = some d2 → exitI mm (.cell n) st = .ok (d2, st2) := fun R e1 e2 e3 st2 d2 e4 e5 => by
    have e0 : List.range mm ++ cellsD (.cell n) = List.range mm ++ [n] := rfl
    unfold exitI
    rw [e0, e1, if_pos ⟨e3, e2⟩, e4, e5]
  obtain ⟨r, er⟩ := rc_pre (st := st) hne ndm
  have ndR := rc_nd (st := st) hne ndm
  have hcl := at_closed 2 t _ _ hd a
  have hcl2 := at_closed 2 t2 _ _ hd2 b
  have hch : ∀ i, i < mm ∨ i ∈ ids ∨ i ∈ jds → ∀ y ∈ chC st i, y ∈ ids ∨ y ∈ jds := fun i hi y hy => by
    have : i ∈ ids ∨ i ∈ jds ∨ ∃ c, st[i]? = some c ∧ flatC c = true := by
      rcases hi with hi | hi | hi
      · rcases hcov i hi with z | ⟨_, _, z⟩
        · exact .inl z
        · exact .inr (.inr z)
      · exact .inl hi
      · exact .inr (.inl hi)
    rcases this with z | z | ⟨c, z1, z2⟩
    · exact .inl (hcl i z y hy)
    · exact .inr (hcl2 i z y hy)
    · unfold chC at hy
      rw [z1] at hy
      dsimp only at hy
      rw [flat_cells z2] at hy
      cases hy
  have hR1 : ∀ x ∈ reach st (List.range mm ++ [n]), x < mm ∨ x ∈ ids ∨ x ∈ jds := fun x hx => by
    rw [rc_mem hne ndm] at hx
    have h0 : ∀ y, y ∈ List.range mm ++ [n] → y < mm ∨ y ∈ ids ∨ y ∈ jds := fun y hy => by
      rcases List.mem_append.mp hy with hy | hy
      · exact .inl (List.mem_range.mp hy)
      · rw [List.mem_singleton.mp hy]; exact .inr (.inr hnj)
    have h1 : ∀ y, (y ∈ List.range mm ++ [n] ∨ ∃ i ∈ List.range mm ++ [n], y ∈ chC st i) → y < mm ∨ y ∈ ids ∨ y ∈ jds := fun y hy => by
      rcases hy with hy | ⟨i, hi, hy⟩
      · exact h0 y hy
      · exact .inr (hch i (h0 i hi) y hy)
    rcases hx with hx | ⟨j, hj, hx⟩
    · exact h1 x hx
    · exact .inr (hch j (h1 j hj) x hx)
  have hR2 : ∀ x ∈ ids, x ∈ reach st (List.range mm ++ [n]) := fun x hx => rch_in hne ndm (List.mem_append_left _ (List.mem_range.mpr hm)) (at_rch 2 t _ _ hd a x hx)
  have hR3 : ∀ x ∈ jds, x ∈ reach st (List.range mm ++ [n]) := fun x hx => rch_in hne ndm (List.mem_append_right _ (List.mem_singleton.mpr rfl)) (at_rch 2 t2 _ _ hd2 b x hx)
  have htk : (reach st (List.range mm ++ [n])).take mm = List.range mm := by rw [er, List.append_assoc, List.take_left' (List.length_range ..)]
  have hexit := hexit _ rfl ndR htk
  have hRi : ∀ i, i < mm → (reach st (List.range mm ++ [n]))[i]? = some i := fun i hi => by rw [er, List.append_assoc, List.getElem?_append_left (by simpa using hi), List.getElem?_range hi]
  have hRl : mm ≤ (reach st (List.range mm ++ [n])).length := by
    rw [er, List.length_append, List.length_append, List.length_range]; omega
  generalize reach st (List.range mm ++ [n]) = R at *
  obtain ⟨st2, e1⟩ := sub_some (st := st) (R := R) R fun i hi => by
    have : i ∈ ids ∨ i ∈ jds ∨ ∃ c, st[i]? = some c ∧ flatC c = true := by
      rcases hR1 i hi with hi | hi | hi
      · rcases hcov i hi with z | ⟨_, _, z⟩
        · exact .inl z
        · exact .inr (.inr z)
      · exact .inl hi
      · exact .inr (.inl hi)
    rcases this with z | z | ⟨c, z1, z2⟩
    · exact at_ren 2 t _ _ hd a hR2 i z
    · exact at_ren 2 t2 _ _ hd2 b hR3 i z
    · exact ⟨c, c, z1, flat_ren z2⟩
  obtain ⟨g1, g2⟩ := subG_get e1
  have hR0 : R[0]? = some 0 := hRi 0 hm
  obtain ⟨d1, f1, f2⟩ := at_sub (st1 := st2) g2 2 t _ _ hd a hR2
  obtain ⟨d3, f3, f4⟩ := at_sub (st1 := st2) g2 2 t2 _ _ hd2 b hR3
  have ed1 : d1 = .cell 0 := by
    have h0 := List.mem_of_getElem? hR0
    have : ren R (.cell 0) = some (.cell (ixD R 0)) := by show (M.idx 0 R).map D.cell = _; rw [(idx_in h0).1]; rfl
    rw [this, ixD_at ndR hR0] at f1
    exact (Option.some.inj f1).symm
  have ed3 : d3 = .cell (ixD R n) := by
    have : ren R (.cell n) = some (.cell (ixD R n)) := by show (M.idx n R).map D.cell = _; rw [(idx_in (hR3 n hnj)).1]; rfl
    rw [this] at f3
    exact (Option.some.inj f3).symm
  subst ed1
  subst ed3
  refine ⟨st2, ixD R n, hexit st2 _ e1 f3, by rw [g1]; exact hRl, [[], ids.map (ixD R), jds.map (ixD R)], rfl, ?_, fun k m t js hk hw => ?_, fun m r2 e i hi => ?_⟩
  · have : ([[], ids.map (ixD R), jds.map (ixD R)] : List (List Nat)).flatten = (ids ++ jds).map (ixD R) := by simp
    rw [this]
    have hin : ∀ x ∈ ids ++ jds, x ∈ R := fun x hx => (List.mem_append.mp hx).elim (hR2 x) (hR3 x)
    exact List.pairwise_map.mpr (nd2.imp_of_mem fun {x y} hx hy hne e => hne (ixD_inj (hin x hx) (hin y hy) e))
  · match k, hk, hw with
    | 0, hk, hw => cases hk; cases hw; exact rfl
    | 1, hk, hw => cases hk; cases hw; exact f2
    | 2, hk, hw => cases hk; cases hw; exact f4
  · cases e
    have hx := hRi i hi
    rcases hcov i hi with z | ⟨z0, z0', c, z1, z2⟩
    · refine .inl ?_
      show i ∈ ([[], ids.map (ixD R)] : List (List Nat)).flatten
      have : ([[], ids.map (ixD R)] : List (List Nat)).flatten = ids.map (ixD R) := by simp
      rw [this]
      exact List.mem_map.mpr ⟨i, z, ixD_at ndR hx⟩
    · refine .inr ⟨fun q => ?_, c, ?_, z2⟩
      · have : ([[], ids.map (ixD R), jds.map (ixD R)] : List (List Nat)).flatten = (ids ++ jds).map (ixD R) := by simp
        rw [this] at q
        obtain ⟨x, hx1, hx2⟩ := List.mem_map.mp q
        have hxR : x ∈ R := (List.mem_append.mp hx1).elim (hR2 x) (hR3 x)
        have := (idx_in hxR).2
        rw [hx2, hx] at this
        have := Option.some.inj this
        subst this
        exact (List.mem_append.mp hx1).elim z0 z0'
      · obtain ⟨c1, c2, e3, e4, e5⟩ := g2 i i hx
        rw [z1] at e3; cases e3
        rw [flat_ren z2] at e4; cases e4
        exact e5
/-- how a body ends: data -/
def QFO [Em τ] (tr : κ → Tr) (mm : Nat) : τ × κ → Fl × Et × Sr → Prop := fun g r => ∃ d, (r.1 = .rt d ∨ (r.1 = .nx ∧ d = .fz .non)) ∧ ∃ st2 rest, frzTop mm r.2.2 d = some (.fz (em g.1), st2) ∧ Own ((mm, .base 1) :: (0, tr g.2) :: rest) st2
/-- .. a new cell -/
def QOC (tr : κ → Tr) (rt : τ → Tr) (mm : Nat) : τ × κ → Fl × Et × Sr → Prop := fun g r => ∃ n rest, r.1 = .rt (.cell n) ∧ Own ((mm, .base 1) :: (0, tr g.2) :: (n, rt g.1) :: rest) r.2.2
def XO (mm : Nat) (t0 : Tr) : XP := fun _ st => ∃ rest, Own ((mm, .base 1) :: (0, t0) :: rest) st
theorem base_pos {mm : Nat} {t : Tr} {L : Ow} {st : Sr} (e : mm = st.length) (o : Own ((mm, .base 1) :: (0, t) :: L) st) (hd : Dep 2 t) : 0 < mm := by
  obtain ⟨ids, a, _⟩ := o.tree (k := 1) rfl
  have := a.lt 0 (at_root hd a 0 (List.mem_singleton.mpr rfl))
  omega
theorem spo_of [Em τ] {tr : κ → Tr} {t0 : Tr} {m : Rs (τ × κ)} {b : DS} {np n : Nat} {as : List P} (d0 : Dep 2 t0) (d1 : ∀ s, Dep 2 (tr s)) (hl : as.length + 1 = np) (η0 : Et) (hη : (.cell 0 :: as.map D.fz).map some ++ List.replicate (n - np) none = η0) (h : ∀ mm, Wk [(mm, .base 1), (0, t0)] m (b η0) (QFO tr mm) (XO mm t0)) : SpO tr t0 m (runF np n true b) as := ⟨fun st o => by
  have hm := base_pos rfl o d0
  have h := h st.length st o
  have e : runF np n true b (.cell 0 :: as.map D.fz) st = endF true st.length (b η0 st) := by
    unfold runF; rw [if_pos (by simp; omega), hη]
  cases m with
  | stuck => trivial
  | exc c fs =>
    obtain ⟨e1, st', h1, rest, h2⟩ := h
    obtain ⟨st2, q1, q2, q3⟩ := exitO (p := .non) h2 d0 hm
    refine ⟨st2, ?_, q2, q3⟩
    rw [e, h1]
    show exitX st.length c fs st' = _
    unfold exitX
    rw [q1]
  | ok g =>
    obtain ⟨⟨fl, e1, st'⟩, h1, d, h2, st2, rest, h3, h4⟩ := h
    obtain ⟨st3, q1, q2, q3⟩ := exitO (p := em g.1) h4 (d1 g.2) hm
    refine ⟨st3, ?_, q2, q3⟩
    rw [e, h1]
    have e3 : exitF true st.length d st' = .ok (.fz (em g.1), st3) := by
      show (match frzTop st.length st' d with | some (d1, st1) => exitI st.length d1 st1 | none => .stuck) = _
      rw [h3]
      exact q1
    rcases h2 with h2 | ⟨h2, h2'⟩
    · have h2 : fl = .rt d := h2
      subst h2; exact e3
    · have h2 : fl = .nx := h2
      subst h2; subst h2'; exact e3⟩
theorem spoc_of {tr : κ → Tr} {rt : τ → Tr} {t0 : Tr} {m : Rs (τ × κ)} {b : DS} {np n : Nat} {as : List P} (d0 : Dep 2 t0) (d1 : ∀ s, Dep 2 (tr s)) (d2 : ∀ s, Dep 2 (rt s)) (hl : as.length + 1 = np) (η0 : Et) (hη : (.cell 0 :: as.map D.fz).map some ++ List.replicate (n - np) none = η0) (h : ∀ mm, Wk [(mm, .base 1), (0, t0)] m (b η0) (QOC tr rt mm) (XO mm t0)) : SpOC tr rt t0 m (runF np n false b) as := ⟨fun st o => by
  have hm := base_pos rfl o d0
  have h := h st.length st o
  have e : runF np n false b (.cell 0 :: as.map D.fz) st = endF false st.length (b η0 st) := by
    unfold runF; rw [if_pos (by simp; omega), hη]
  cases m with
  | stuck => trivial
  | exc c fs =>
    obtain ⟨e1, st', h1, rest, h2⟩ := h
    obtain ⟨st2, q1, q2, q3⟩ := exitO (p := .non) h2 d0 hm
    refine ⟨st2, ?_, q2, q3⟩
    rw [e, h1]
    show exitX st.length c fs st' = _
    unfold exitX
    rw [q1]
  | ok g =>
    obtain ⟨⟨fl, e1, st'⟩, h1, n1, rest, h2, h4⟩ := h
    obtain ⟨st3, k, q1, q2, q3⟩ := exitOC h4 (d1 g.2) (d2 g.1) hm
    refine ⟨st3, k, ?_, q2, q3⟩
    have h2 : fl = .rt (.cell n1) := h2
    subst h2
    rw [e, h1]
    exact q1⟩
section
variable {mm : Nat} {tr : κ → Tr} {rest : Ow} {η : Et} {st : Sr}
theorem qfo [Em τ] {t : τ} {s : κ} {p : P} (o : Own ((mm, .base 1) :: (0, tr s) :: rest) st) (hz : p = em t) : QFO tr mm (t, s) (.rt (.fz p), η, st) := ⟨_, .inl rfl, st, rest, by subst hz; rfl, o⟩
theorem qfon {s : κ} (o : Own ((mm, .base 1) :: (0, tr s) :: rest) st) : QFO tr mm ((), s) (.nx, η, st) := ⟨.fz .non, .inr ⟨rfl, rfl⟩, st, rest, rfl, o⟩
theorem qoc {rt : τ → Tr} {t : τ} {s : κ} {n : Nat} (o : Own ((mm, .base 1) :: (0, tr s) :: (n, rt t) :: rest) st) : QOC tr rt mm (t, s) (.rt (.cell n), η, st) := ⟨n, rest, rfl, o⟩
theorem xo {t0 : Tr} (o : Own ((mm, .base 1) :: (0, t0) :: rest) st) : XO mm t0 η st := ⟨rest, o⟩
end
end N
end
section
set_option Elab.async false
set_option linter.all false
set_option maxRecDepth 100000
set_option maxHeartbeats 0
namespace N
open PySem L2 M
end N
end
section
set_option Elab.async false
set_option linter.all false
set_option maxRecDepth 100000
set_option maxHeartbeats 0
namespace N
open PySem L2 M
end N
end
section
set_option Elab.async false
set_option linter.all false
set_option maxRecDepth 100000
set_option maxHeartbeats 0
namespace N
open PySem L2 M
end N
end
section
set_option Elab.async false
set_option linter.all false
set_option maxRecDepth 100000
set_option maxHeartbeats 0
namespace N
open PySem L2 M
end N
end
section
set_option Elab.async false
set_option linter.all false
set_option maxRecDepth 100000
set_option maxHeartbeats 0
namespace N
open PySem L2 M
end N
end
section
set_option Elab.async false
set_option linter.all false
set_option maxRecDepth 100000
set_option maxHeartbeats 0
namespace N
open PySem L2 M
end N
end
section
set_option Elab.async false
set_option linter.all false
set_option maxRecDepth 100000
set_option maxHeartbeats 0
namespace N
open PySem L2 M
end N
end
section
set_option Elab.async false
set_option linter.all false
set_option maxRecDepth 100000
set_option maxHeartbeats 0
namespace N
open PySem L2 M
variable {α β γ δ : Type} {L : Ow} {X : XP} {η : Et} {f : DE} {y : DS} {mv : Rs δ} {Q : γ → Fl × Et × Sr → Prop} {i : Nat}
theorem ev_isNP {p : P} : Ev L (isNO (fe p) (.fz .non)) (fe p.isNon) := fun st o => rfl
end N
end
section
set_option Elab.async false
set_option linter.all false
set_option maxRecDepth 100000
set_option maxHeartbeats 0
namespace N
open PySem L2 M
end N
end
section
set_option Elab.async false
set_option linter.all false
set_option maxRecDepth 100000
set_option maxHeartbeats 0
namespace N
open PySem L2 M
end N
end
section
set_option Elab.async false
set_option linter.all false
set_option maxRecDepth 100000
set_option maxHeartbeats 0
namespace N
open PySem L2 M
end N
end
section
set_option Elab.async false
set_option linter.all false
set_option maxRecDepth 100000
set_option maxHeartbeats 0
namespace N
open PySem L2 M
end N
end
section
set_option Elab.async false
set_option linter.all false
set_option maxRecDepth 100000
set_option maxHeartbeats 0
namespace N
open PySem L2 M
variable {α β γ δ σ ρ τ κ J : Type}
structure Dn (α β : Type) where
  l : List (T2 α β)
def dnE [Em α] [Em β] (ys : List (T2 α β)) : List (P × P) := ys.map fun x => (em x.a, em x.b)
instance [Em α] [Em β] : Em (Dn α β) := ⟨fun d => .dn (dnE d.l)⟩
class Nk (α : Type) [Em α] where
  nk : α → NestedKey
  nkp : ∀ a : α, nkP (em a) = some (nk a)
  inj : ∀ a b, nk a = nk b → a = b
  dep : ∀ a, (nk a).depth ≤ 8
  tup : ∀ a : α, ∃ ks, em a = .tup ks
def nkT (t : Tu Int) : NestedKey := .tup (t.l.map .num)
theorem nksP_int : ∀ xs : List Int, nksP (xs.map em) = some (xs.map NestedKey.num)
  | [] => rfl
  | x :: xs => by
    show nksP (P.int x :: xs.map em) = _
    unfold nksP
    rw [nksP_int xs]; rfl
theorem nkT_p (t : Tu Int) : nkP (em t) = some (nkT t) := by
  show nkP (.tup (t.l.map em)) = _
  unfold nkP
  rw [nksP_int]; rfl
theorem num_inj : ∀ {xs ys : List Int}, xs.map NestedKey.num = ys.map NestedKey.num → xs = ys
  | [], [], _ => rfl
  | [], _ :: _, h => by cases h
  | _ :: _, [], h => by cases h
  | x :: xs, y :: ys, h => by
    rw [List.map_cons, List.map_cons] at h
    injection h with h1 h2
    injection h1 with h1
    rw [h1, num_inj h2]
theorem nkT_inj (a b : Tu Int) (h : nkT a = nkT b) : a = b := by
  cases a; cases b
  unfold nkT at h
  injection h with h
  exact congrArg Tu.mk (num_inj h)
theorem num_deps : ∀ xs : List Int, NestedKey.depthAll (xs.map NestedKey.num) = 0
  | [] => rfl
  | x :: xs => by
    rw [List.map_cons]
    unfold NestedKey.depthAll
    rw [num_deps xs]; rfl
theorem nkT_dep (t : Tu Int) : (nkT t).depth ≤ 1 := by
  unfold nkT NestedKey.depth
  rw [num_deps]; exact Nat.le_refl _
instance : Nk (Tu Int) := ⟨nkT, nkT_p, nkT_inj, fun a => Nat.le_trans (nkT_dep a) (by decide), fun a => ⟨_, rfl⟩⟩
def nk3 (t : T3 (Tu Int) (Tu Int) (Tu Int)) : NestedKey := .tup [nkT t.a, nkT t.b, nkT t.c]
instance : Nk (T3 (Tu Int) (Tu Int) (Tu Int)) := ⟨nk3, fun t => by
    show nkP (.tup [em t.a, em t.b, em t.c]) = _
    unfold nkP nksP nksP nksP nksP
    rw [nkT_p, nkT_p, nkT_p]; rfl, fun a b h => by
    cases a; cases b
    unfold nk3 at h
    injection h with h
    injection h with h1 h
    injection h with h2 h
    injection h with h3 h
    have h1 := nkT_inj _ _ h1
    have h2 := nkT_inj _ _ h2
    have h3 := nkT_inj _ _ h3
    dsimp only at h1 h2 h3
    rw [h1, h2, h3], fun a => by
    unfold nk3 NestedKey.depth NestedKey.depthAll NestedKey.depthAll NestedKey.depthAll NestedKey.depthAll
    have h1 := nkT_dep a.a
    have h2 := nkT_dep a.b
    have h3 := nkT_dep a.c
    omega, fun a => ⟨_, rfl⟩⟩
abbrev Tr.dn (xs : List (P × P)) : Tr := .c (.dn xs)
def Dk [Em α] [Em β] (L : Ow) (d : D) (ys : List (T2 α β)) : Prop := ∀ st, Own L st → dnOf st d = some (dnE ys)
end N
end
section
set_option Elab.async false
set_option linter.all false
set_option maxRecDepth 100000
set_option maxHeartbeats 0
namespace M
open PySem L2
end M
end
section
set_option Elab.async false
set_option linter.all false
set_option maxRecDepth 100000
set_option maxHeartbeats 0
namespace N
open PySem L2 M
variable {α β γ δ : Type}
def dkE (ys : List (T2 Str Int)) : List (Key × P) := ys.map fun x => (.inr x.a, .int x.b)
def sget (k : Str) : List (T2 Str Int) → Option Int
  | [] => none
  | x :: r => if x.a = k then some x.b else sget k r
theorem inr_iff {a b : Str} : (Sum.inr a : Key) = .inr b ↔ a = b := ⟨fun h => Sum.inr.inj h, fun h => by rw [h]⟩
theorem getK_em (k : Str) : ∀ ys : List (T2 Str Int), getK (.inr k) (dkE ys) = (sget k ys).map P.int
  | [] => rfl
  | x :: r => by
    show (if (Sum.inr x.a : Key) = .inr k then some (P.int x.b) else getK (.inr k) (dkE r)) = _
    unfold sget
    by_cases c : x.a = k
    · rw [if_pos (inr_iff.mpr c), if_pos c]; rfl
    · rw [if_neg (fun h => c (inr_iff.mp h)), if_neg c]; exact getK_em k r
section
variable {L : Ow} {X : XP} {η : Et} {d : D} {ys : List (T2 Str Int)} {k : Str}
theorem w_ixS (i : Nat) {n : Nat} (h : L[i]? = some (n, .c (.dct (dkE ys)))) : Wk L (unw (sget k ys)) (dIxO (.cell n) (fe k)) (PV fe fun _ => L) X := fun st o => by
  cases e : sget k ys with
  | none => trivial
  | some v =>
    refine ⟨(fe v, st), ?_, rfl, o⟩
    unfold dIxO peek
    dsimp only
    rw [o.get i h]
    show (match getK (.inr k) (dkE ys) with | some q => R.ok (D.fz q, st) | none => .stuck) = _
    rw [getK_em, e]; rfl
theorem ev_ntB {x y : Bool} : Ev L (notBO (fe x) (fe y)) (fe (!decide (x = y))) := fun _ _ => rfl
end
end N
end
section
set_option Elab.async false
set_option linter.all false
set_option maxRecDepth 100000
set_option maxHeartbeats 0
namespace N
open PySem L2 M
variable {α β γ δ σ τ κ : Type}
section
variable [Em β]
def kvE (ys : List (T2 Str β)) : List (Key × P) := ys.map fun x => (.inr x.a, em x.b)
def kget (k : Str) : List (T2 Str β) → Option β
  | [] => none
  | x :: r => if x.a = k then some x.b else kget k r
def kput (k : Str) (v : β) : List (T2 Str β) → List (T2 Str β)
  | [] => [⟨k, v⟩]
  | x :: r => if x.a = k then ⟨x.a, v⟩ :: r else x :: kput k v r
@[irreducible] def putK9 (ys : List (T2 Str β)) (k : Str) (v : β) : Rs (List (T2 Str β)) := if ndK (kvE ys) = true ∧ ys.length < 16777216 then .ok (kput k v ys) else .stuck
theorem getK_kv (k : Str) : ∀ ys : List (T2 Str β), getK (.inr k) (kvE ys) = (kget k ys).map em
  | [] => rfl
  | x :: r => by
    show (if (Sum.inr x.a : Key) = .inr k then some (em x.b) else getK (.inr k) (kvE r)) = _
    unfold kget
    by_cases c : x.a = k
    · rw [if_pos (inr_iff.mpr c), if_pos c]; rfl
    · rw [if_neg (fun h => c (inr_iff.mp h)), if_neg c]; exact getK_kv k r
theorem putP_kv (k : Str) (v : β) : ∀ ys : List (T2 Str β), putP (.inr k) (em v) (kvE ys) = kvE (kput k v ys)
  | [] => rfl
  | x :: r => by
    show (if (Sum.inr x.a : Key) = .inr k then ((Sum.inr x.a : Key), em v) :: kvE r else ((Sum.inr x.a : Key), em x.b) :: putP (.inr k) (em v) (kvE r)) = _
    unfold kput
    by_cases c : x.a = k
    · rw [if_pos (inr_iff.mpr c), if_pos c]; rfl
    · rw [if_neg (fun h => c (inr_iff.mp h)), if_neg c, putP_kv k v r]; rfl
end
def pixP (p : P) (i : Int) : Rs P := match (itemsP p).bind fun xs => atI xs i with
  | some q => .ok q
  | none => .stuck
def strP : P → Rs Str
  | .str s => .ok s
  | _ => .stuck
def intP9 : P → Rs Int
  | .int i => .ok i
  | _ => .stuck
section
variable {L : Ow} {X : XP} {η : Et} {st : Sr}
theorem w_pix {d : D} {p : P} {i : Int} (h : Pk L d p) : Wk L (pixP p i) (ixO d (fe i)) (PV (fe (α := P)) fun _ => L) X := fun st o => by
  unfold pixP
  cases e : (itemsP p).bind fun xs => atI xs i with
  | none => trivial
  | some q =>
    refine ⟨(.fz q, st), ?_, rfl, o⟩
    unfold ixO
    rw [h st o]
    show (match (itemsP p).bind fun xs => atI xs i with | some q => R.ok (D.fz q, st) | none => .stuck) = _
    rw [e]
theorem w_strM {m : Rs P} {c : Sr → R (D × Sr)} {L' : Ow} (V : Wk L m c (PV (fe (α := P)) fun _ => L') X) : Wk L (m.bind strP) c (PV (fe (α := Str)) fun _ => L') X := fun st o => by
  have h := V st o
  cases m with
  | stuck => trivial
  | exc c fs => exact h
  | ok p =>
    obtain ⟨⟨d, st'⟩, h1, h2, h3⟩ := h
    cases p <;> first | trivial | exact ⟨_, h1, h2, h3⟩
theorem w_intM {m : Rs P} {c : Sr → R (D × Sr)} {L' : Ow} (V : Wk L m c (PV (fe (α := P)) fun _ => L') X) : Wk L (m.bind intP9) c (PV (fe (α := Int)) fun _ => L') X := fun st o => by
  have h := V st o
  cases m with
  | stuck => trivial
  | exc c fs => exact h
  | ok p =>
    obtain ⟨⟨d, st'⟩, h1, h2, h3⟩ := h
    cases p <;> first | trivial | exact ⟨_, h1, h2, h3⟩
/-- a key that must be a text -/
theorem wk_strP {p : P} {kk : Str → Rs γ} {c : Sr → R α} {Q : γ → α → Prop} (h : ∀ s, p = .str s → Wk L (kk s) c Q X) : Wk L ((strP p).bind kk) c Q X := by
  cases p with
  | str s => exact h s rfl
  | _ => exact fun st o => trivial
variable {kp n : Nat} {c f : Str} {cs : List Str} {fs : List (Str × Tr)}
theorem noF_at {m : Str} : ∀ {fs : List (Str × Tr)} {ds : List (Str × D)} {ids : List Nat}, AtF st fs ds ids → fs.lookup m = none → noF m ds = true
  | [], ds, ids, a, _ => by obtain ⟨rfl, rfl⟩ := a; rfl
  | (k, t) :: fs, ds, ids, a, h => by
    obtain ⟨d, r, i, j, rfl, rfl, a1, a2⟩ := a
    rw [List.lookup_cons] at h
    unfold noF
    cases q : m == k with
    | true => rw [q] at h; cases h
    | false =>
      rw [q] at h
      rw [noF_at a2 h]; rfl
theorem w_methOb {nm : Str} {tab : List (Str × DF)} {fo : DE} {fa : DA} {F : DF} {m : Rs γ} {Q : γ → D × Sr → Prop} (h0 : L[kp]? = some (n, .obj c fs)) (hf : Ev L (fo η) (.cell n)) (hn : fs.lookup nm = none) (hF : look1 c tab = some F) (hk : Wk L m (th (fa η) fun bs st => callF F (.cell n :: bs) η st) Q X) : Wk L m (dMeth nm tab fo fa η) Q X := fun st o => by
  obtain ⟨ids, a, _⟩ := o.tree h0
  obtain ⟨ds, is, rfl, hs, ha⟩ := obj_root a
  have e : dMeth nm tab fo fa η st = th (fa η) (fun bs st => callF F (.cell n :: bs) η st) st := by
    have ec : clsM nm st (.cell n) = some c := by
      show (match st[n]? with
        | some (.obj c fs) => if noF nm fs then some c else none
        | some (.frz (.obj c fs)) => if noF nm fs then some c else none
        | _ => none) = _
      rw [hs]
      dsimp only
      rw [noF_at ha hn]; rfl
    unfold dMeth th
    rw [hf st o, bind_ok]
    dsimp only
    rw [ec]
    show (match look1 c tab with | some F => _ | none => _) = _
    rw [hF]
  have := hk st o
  rw [← e] at this
  exact this
theorem w_propOb {tab : List (Str × DF)} {fo : DE} {F : DF} {m : Rs γ} {Q : γ → D × Sr → Prop} (h0 : L[kp]? = some (n, .obj c fs)) (hf : Ev L (fo η) (.cell n)) (hF : look1 c tab = some F) (hk : Wk L m (fun st => callF F [.cell n] η st) Q X) : Wk L (calm m) (dProp tab fo η) Q X := fun st o => by
  obtain ⟨ids, a, _⟩ := o.tree h0
  obtain ⟨ds, is, rfl, hs, ha⟩ := obj_root a
  have e : dProp tab fo η st = noX (callF F [.cell n] η st) := by
    have ec : clsOf st (.cell n) = some c := by
      show (match st[n]? with
        | some (.obj c _) => some c
        | some (.frz (.obj c _)) => some c
        | _ => none) = _
      rw [hs]
    unfold dProp
    rw [hf st o, bind_ok]
    dsimp only
    rw [ec]
    show (match look1 c tab with | some F => _ | none => _) = _
    rw [hF]
  have h := hk st o
  cases m with
  | stuck => trivial
  | exc c fs => trivial
  | ok g =>
    obtain ⟨a, h1, h2⟩ := h
    exact ⟨a, by show dProp tab fo η st = _; rw [e]; show noX (callF F [.cell n] η st) = _; rw [show callF F [.cell n] η st = .ok a from h1]; rfl, h2⟩
end
end N
end
section
set_option Elab.async false
set_option linter.all false
set_option maxRecDepth 100000
set_option maxHeartbeats 0
namespace N
open PySem L2 M
variable {α β γ δ σ τ κ : Type}
def SpR [Em τ] (t0 : Tr) (m : Rs τ) (F : DF) (as : List P) : Prop := SpO (fun _ : Unit => t0) t0 (m.bind fun v => Rs.ok (v, ())) F as
def SpRC (rt : τ → Tr) (t0 : Tr) (m : Rs τ) (F : DF) (as : List P) : Prop := SpOC (fun _ : Unit => t0) rt t0 (m.bind fun v => Rs.ok (v, ())) F as
def QFR [Em τ] (t0 : Tr) (mm : Nat) : τ → Fl × Et × Sr → Prop := fun v r => QFO (fun _ : Unit => t0) mm (v, ()) r
def QRC (rt : τ → Tr) (t0 : Tr) (mm : Nat) : τ → Fl × Et × Sr → Prop := fun v r => QOC (fun _ : Unit => t0) rt mm (v, ()) r
theorem wk_unit {L : Ow} {m : Rs τ} {c : Sr → R α} {Q : τ × Unit → α → Prop} {X : XP} (h : Wk L m c (fun v a => Q (v, ()) a) X) : Wk L (m.bind fun v => Rs.ok (v, ())) c Q X := fun st o => by
  have h := h st o
  cases m with
  | stuck => trivial
  | exc c fs => exact h
  | ok v => exact h
theorem wk_nounit {L : Ow} {m : Rs τ} {c : Sr → R α} {Q : τ × Unit → α → Prop} {X : XP} (h : Wk L (m.bind fun v => Rs.ok (v, ())) c Q X) : Wk L m c (fun v a => Q (v, ()) a) X := fun st o => by
  have h := h st o
  cases m with
  | stuck => trivial
  | exc c fs => exact h
  | ok v => exact h
theorem spr_of [Em τ] {t0 : Tr} {m : Rs τ} {b : DS} {np n : Nat} {as : List P} (d0 : Dep 2 t0) (hl : as.length + 1 = np) (η0 : Et) (hη : (.cell 0 :: as.map D.fz).map some ++ List.replicate (n - np) none = η0) (h : ∀ mm, Wk [(mm, .base 1), (0, t0)] m (b η0) (QFR t0 mm) (XO mm t0)) : SpR t0 m (runF np n true b) as :=
  spo_of d0 (fun _ => d0) hl η0 hη fun mm => wk_unit (h mm)
theorem sprc_of {rt : τ → Tr} {t0 : Tr} {m : Rs τ} {b : DS} {np n : Nat} {as : List P} (d0 : Dep 2 t0) (d2 : ∀ s, Dep 2 (rt s)) (hl : as.length + 1 = np) (η0 : Et) (hη : (.cell 0 :: as.map D.fz).map some ++ List.replicate (n - np) none = η0) (h : ∀ mm, Wk [(mm, .base 1), (0, t0)] m (b η0) (QRC rt t0 mm) (XO mm t0)) : SpRC rt t0 m (runF np n false b) as :=
  spoc_of d0 (fun _ => d0) d2 hl η0 hη fun mm => wk_unit (h mm)
theorem set_same {L : Ow} {kp n : Nat} {t0 : Tr} (h0 : L[kp]? = some (n, t0)) : L.set kp (n, t0) = L := by
  refine List.ext_getElem? fun j => ?_
  by_cases q : kp = j
  · subst q
    rw [List.getElem?_set_self (List.getElem?_eq_some_iff.mp h0).1, h0]
  · rw [List.getElem?_set_ne q]
section
variable {L : Ow} {X : XP} {η : Et} {F : DF} {t0 : Tr} {n : Nat} {as : List P} {ds : List D}
theorem w_callR [Em τ] {m : Rs τ} (kp : Nat) (h : SpR t0 m F as) (hd : ds = .cell n :: as.map D.fz) (h0 : L[kp]? = some (n, t0)) (d0 : Dep 2 t0) (hx : ∀ st, Own L st → X η st) : Wk L m (fun st => callF F ds η st) (PV fe fun _ => L) X := by
  have h1 := wk_nounit (w_callO (X := X) (η := η) kp h hd h0 d0 (fun _ => d0) hx)
  intro st o
  have h2 := h1 st o
  cases m with
  | stuck => trivial
  | exc c fs => exact h2
  | ok v =>
    obtain ⟨a, q1, q2, q3⟩ := h2
    refine ⟨a, q1, q2, ?_⟩
    have q3 : Own (L.set kp (n, t0)) a.2 := q3
    rwa [set_same h0] at q3
theorem w_callRC {rt : τ → Tr} {m : Rs τ} (kp : Nat) (h : SpRC rt t0 m F as) (hd : ds = .cell n :: as.map D.fz) (h0 : L[kp]? = some (n, t0)) (d0 : Dep 2 t0) (d2 : ∀ s, Dep 2 (rt s)) (hx : ∀ st, Own L st → X η st) : Wk L m (fun st => callF F ds η st) (PT rt fun _ => L) X := by
  have h1 := wk_nounit (w_callOC (X := X) (η := η) kp h hd h0 d0 (fun _ => d0) d2 hx)
  intro st o
  have h2 := h1 st o
  cases m with
  | stuck => trivial
  | exc c fs => exact h2
  | ok v =>
    obtain ⟨a, q1, n', q2, q3⟩ := h2
    refine ⟨a, q1, n', q2, ?_⟩
    have q3 : Own (L.set kp (n, t0) ++ [(n', rt v)]) a.2 := q3
    rwa [set_same h0] at q3
/-- no exception is looked at -/
theorem wk_calm {m : Rs γ} {c : Sr → R α} {Q : γ → α → Prop} {X' : XP} (h : Wk L m c Q X') : Wk L (calm m) c Q X := fun st o => by
  have h := h st o
  cases m with
  | stuck => trivial
  | exc c fs => trivial
  | ok v => exact h
end
section
variable {mm : Nat} {t0 : Tr} {rest : Ow} {η : Et} {st : Sr}
theorem qfr [Em τ] {t : τ} {p : P} (o : Own ((mm, .base 1) :: (0, t0) :: rest) st) (hz : p = em t) : QFR t0 mm t (.rt (.fz p), η, st) := qfo (tr := fun _ : Unit => t0) o hz
theorem qfrn (o : Own ((mm, .base 1) :: (0, t0) :: rest) st) : QFR t0 mm () (.nx, η, st) := qfon (tr := fun _ : Unit => t0) o
theorem qrc {rt : τ → Tr} {t : τ} {n : Nat} (o : Own ((mm, .base 1) :: (0, t0) :: (n, rt t) :: rest) st) : QRC rt t0 mm t (.rt (.cell n), η, st) := qoc (tr := fun _ : Unit => t0) o
end
/-- a def whose body raises nothing that anyone looks at -/
theorem spo_of0 [Em τ] {tr : κ → Tr} {t0 : Tr} {m : Rs (τ × κ)} {b : DS} {np n : Nat} {as : List P} (d0 : Dep 2 t0) (d1 : ∀ s, Dep 2 (tr s)) (hl : as.length + 1 = np) (η0 : Et) (hη : (.cell 0 :: as.map D.fz).map some ++ List.replicate (n - np) none = η0) (h : ∀ mm, Wk [(mm, .base 1), (0, t0)] m (b η0) (QFO tr mm) (fun _ _ => False)) : SpO tr t0 m (runF np n true b) as :=
  spo_of d0 d1 hl η0 hη fun mm st o => by
    have h := h mm st o
    cases m with
    | stuck => trivial
    | exc c fs => obtain ⟨_, _, _, h⟩ := h; exact h.elim
    | ok g => exact h
theorem spr_of0 [Em τ] {t0 : Tr} {m : Rs τ} {b : DS} {np n : Nat} {as : List P} (d0 : Dep 2 t0) (hl : as.length + 1 = np) (η0 : Et) (hη : (.cell 0 :: as.map D.fz).map some ++ List.replicate (n - np) none = η0) (h : ∀ mm, Wk [(mm, .base 1), (0, t0)] m (b η0) (QFR t0 mm) (fun _ _ => False)) : SpR t0 m (runF np n true b) as :=
  spr_of d0 hl η0 hη fun mm st o => by
    have h := h mm st o
    cases m with
    | stuck => trivial
    | exc c fs => obtain ⟨_, _, _, h⟩ := h; exact h.elim
    | ok g => exact h
end N
end
section
set_option Elab.async false
set_option linter.all false
set_option maxRecDepth 100000
set_option maxHeartbeats 0
namespace N
open PySem L2 M
variable {α β γ δ σ τ κ : Type}
theorem hasK_kv [Em β] (k : Str) : ∀ ys : List (T2 Str β), hasK (.inr k) (kvE ys) = decide (k ∈ ys.map (·.a))
  | [] => rfl
  | x :: r => by
    show (decide ((Sum.inr x.a : Key) = .inr k) || hasK (.inr k) (kvE r)) = _
    rw [hasK_kv k r, List.map_cons]
    by_cases e : x.a = k
    · rw [decide_eq_true (inr_iff.mpr e), e, decide_eq_true (List.mem_cons_self ..)]; rfl
    · rw [decide_eq_false fun h => e (inr_iff.mp h), Bool.false_or]
      by_cases q : k ∈ r.map (·.a)
      · rw [decide_eq_true q, decide_eq_true (List.mem_cons_of_mem _ q)]
      · rw [decide_eq_false q, decide_eq_false fun h => (List.mem_cons.mp h).elim (fun h => e h.symm) q]
theorem ndK_kv [Em β] : ∀ ys : List (T2 Str β), ndK (kvE ys) = decide (ys.map (·.a)).Nodup
  | [] => rfl
  | x :: r => by
    show (!hasK (.inr x.a) (kvE r) && ndK (kvE r)) = _
    rw [hasK_kv, ndK_kv r, List.map_cons]
    by_cases q : x.a ∈ r.map (·.a)
    · rw [decide_eq_true q, decide_eq_false fun h => (List.nodup_cons.mp h).1 q]; rfl
    · by_cases q2 : (r.map (·.a)).Nodup
      · rw [decide_eq_false q, decide_eq_true q2, decide_eq_true (List.nodup_cons.mpr ⟨q, q2⟩)]; rfl
      · rw [decide_eq_false q, decide_eq_false q2, decide_eq_false fun h => q2 (List.nodup_cons.mp h).2]; rfl
theorem kput_new [Em β] {k : Str} {v : β} : ∀ {ys : List (T2 Str β)}, k ∉ ys.map (·.a) → kput k v ys = ys ++ [⟨k, v⟩]
  | [], _ => rfl
  | x :: r, h => by
    rw [List.map_cons] at h
    unfold kput
    rw [if_neg fun e => h (by rw [← e]; exact List.mem_cons_self), kput_new fun q => h (List.mem_cons_of_mem _ q)]; rfl
theorem keysD_kv [Em β] (ys : List (T2 Str β)) : (kvE ys).map (fun kv => keyD kv.1) = ys.map fun x => P.str x.a := by
  unfold kvE
  rw [List.map_map]; rfl
theorem dcD_kv [Em α] [Em β] {i : Nat} {fv : DE} {η : Et} {st : Sr} {f : T2 Str α → β} (hi : i < η.length) : ∀ (rest : List (T2 Str α)) (dn : List (T2 Str β)), (∀ x ∈ rest, fv (η.set i (some (fe x.a))) st = .ok (fe (f x), st)) → (dn.map (·.a) ++ rest.map (·.a)).Nodup → dn.length + rest.length < 16777216 →
    dcD i (dVar i) fv η (rest.map fun x => P.str x.a) (kvE dn) st = .ok (kvE (dn ++ rest.map fun x => ⟨x.a, f x⟩), st)
  | [], dn, _, _, _ => by rw [List.map_nil, List.map_nil, List.append_nil]; rfl
  | x :: rest, dn, h, hn, hl => by
    rw [List.length_cons] at hl
    have hx := h x List.mem_cons_self
    have hk : x.a ∉ dn.map (·.a) := fun q => (List.nodup_append.mp hn).2.2 x.a q x.a (by rw [List.map_cons]; exact List.mem_cons_self) rfl
    have ih := dcD_kv (i := i) (fv := fv) (η := η) (st := st) (f := f) hi rest (dn ++ [⟨x.a, f x⟩]) (fun y hy => h y (List.mem_cons_of_mem _ hy)) (by rw [List.map_append]; simpa using hn) (by rw [List.length_append, List.length_singleton]; omega)
    rw [List.map_cons]
    unfold dcD
    have e1 : dVar i (η.set i (some (.fz (P.str x.a)))) st = .ok (fe x.a, st) := by
      unfold dVar
      rw [List.getElem?_set_self hi]; rfl
    rw [e1, bind_ok]
    dsimp only
    have hx : fv (η.set i (some (.fz (P.str x.a)))) st = .ok (fe (f x), st) := hx
    rw [hx, bind_ok]
    dsimp only
    have e2 : (peek st (fe x.a)).bind keyP = some (.inr x.a) := rfl
    have e3 : toP st (fe (f x)) = some (em (f x), st) := rfl
    rw [e2, e3]
    dsimp only
    rw [if_pos ⟨by rw [ndK_kv]; exact decide_eq_true (List.nodup_append.mp hn).1, by unfold kvE; rw [List.length_map]; show dn.length < 16777216; omega⟩, putP_kv, kput_new hk, ih]
    simp
section
variable {L : Ow} {X : XP} {η : Et} {kp n : Nat} {c f : Str} {cs : List Str} {fs : List (Str × Tr)}
/-- {k: v for k in o.f} -/
theorem dck_ev [Em α] [Em β] {i j : Nat} {ys : List (T2 Str α)} {fv : DE} {gf : T2 Str α → β} {st : Sr} (o : Own L st) (h0 : L[kp]? = some (n, .obj c fs)) (hl : fs.lookup f = some (.c (.dct (kvE ys)))) (hc : cs.contains c = true) (hj : η[j]? = some (some (.cell n))) (hi : i < η.length) (hnd : (ys.map (·.a)).Nodup) (hlen : ys.length < 16777216)
    (hv : ∀ (st1 : Sr) (m : Nat) (ds : List (Str × D)), st1[n]? = some (.obj c ds) → ds.lookup f = some (.cell m) → st1[m]? = some (.ldct (kvE ys)) → ∀ x ∈ ys, fv (η.set i (some (fe x.a))) st1 = .ok (fe (gf x), st1)) :
    dDcK (fpA f cs j) i (dVar i) fv η st = .ok (.cell st.length, st ++ [.dct (kvE (ys.map fun x => ⟨x.a, gf x⟩))]) := by
  obtain ⟨ds, m, hn, hd, hm, _⟩ := Own.field o h0 hl
  have hnm : n ≠ m := fun e => by
    rw [e, hm] at hn; cases hn
  have hml := lt_of_at hm
  have efp : fpA f cs j η st = some m := by
    unfold fpA
    rw [hj]
    dsimp only
    have : fldD f cs st (.cell n) = some (.cell m) := by
      show (match st[n]? with
        | some (.obj c fs) => if cs.contains c = true then fs.lookup f else none
        | some (.frz (.obj c fs)) => if cs.contains c = true then (fs.lookup f).map D.fz else none
        | _ => none) = _
      rw [hn]
      dsimp only
      rw [if_pos hc, hd]
    rw [this]
  unfold dDcK
  rw [efp]
  dsimp only
  rw [hm]
  dsimp only
  rw [keysD_kv]
  have e1 := dcD_kv (i := i) (fv := fv) (η := η) (st := st.set m (.ldct (kvE ys))) (f := gf) hi ys [] (hv _ m ds (by rw [List.getElem?_set_ne hnm.symm]; exact hn) hd (List.getElem?_set_self hml)) (by simpa using hnd) (by simpa using hlen)
  have e1 : dcD i (dVar i) fv η (ys.map fun x => P.str x.a) [] (st.set m (.ldct (kvE ys))) = .ok (kvE (ys.map fun x => ⟨x.a, gf x⟩), st.set m (.ldct (kvE ys))) := e1
  rw [e1]
  unfold dcF
  show (match (st.set m (.ldct (kvE ys)))[m]? with
    | some (.ldct kvs) => R.ok (D.cell (st.set m (.ldct (kvE ys))).length, (st.set m (.ldct (kvE ys))).set m (.dct kvs) ++ [Ct.dct (kvE (ys.map fun x : T2 Str α => (⟨x.a, gf x⟩ : T2 Str β)))])
    | _ => .stuck) = _
  rw [List.getElem?_set_self hml]
  dsimp only
  rw [List.length_set, List.set_set]
  have e2 : st.set m (.dct (kvE ys)) = st := by
    refine List.ext_getElem? fun k => ?_
    by_cases q : m = k
    · subst q
      rw [List.getElem?_set_self hml, hm]
    · rw [List.getElem?_set_ne q]
  rw [e2]
/-- a field that is one cell, replaced by a new one -/
theorem atf_rep {st : Sr} {f : Str} {c0 : Ct} : ∀ {fs : List (Str × Tr)} {ds : List (Str × D)} {ids : List Nat}, AtF st fs ds ids → ids.Nodup → fs.lookup f = some (.c c0) → ∃ m0, m0 ∈ ids ∧ st[m0]? = some c0 ∧ ∀ (st' : Sr) (m' : Nat) (c1 : Ct), st'[m']? = some c1 → m' ∉ ids → (∀ x ∈ ids, x ≠ m0 → st'[x]? = st[x]?) →
    ∃ ids', AtF st' (putT f (.c c1) fs) (putD f (.cell m') ds) ids' ∧ ids'.Nodup ∧ (∀ x ∈ ids', x = m' ∨ (x ∈ ids ∧ x ≠ m0)) ∧ ∀ x ∈ ids, x ≠ m0 → x ∈ ids'
  | (k, u) :: fs, ds, ids, a, nd, e => by
    obtain ⟨d, r, i, j, rfl, rfl, e3, e4⟩ := a
    obtain ⟨n1, n2, n3⟩ := List.nodup_append.mp nd
    rw [List.lookup_cons] at e
    by_cases h : k = f
    · subst h
      rw [beq_self_eq_true] at e
      cases e
      obtain ⟨m0, rfl, rfl, hm⟩ := e3
      refine ⟨m0, List.mem_append_left _ (List.mem_singleton.mpr rfl), hm, fun st' m' c1 b1 b2 b3 => ?_⟩
      have hj : ∀ x ∈ j, x ≠ m0 := fun x hx z => n3 m0 (List.mem_singleton.mpr rfl) x hx z.symm
      refine ⟨[m'] ++ j, ?_, ?_, fun x hx => ?_, fun x hx hn => ?_⟩
      · unfold putT putD
        rw [if_pos rfl, if_pos rfl]
        exact ⟨_, r, [m'], j, rfl, rfl, ⟨m', rfl, rfl, b1⟩, e4.frame fun x hx => b3 x (List.mem_append_right _ hx) (hj x hx)⟩
      · refine List.nodup_append.mpr ⟨by simp, n2, fun x hx w hw => ?_⟩
        rw [List.mem_singleton.mp hx]
        rintro rfl
        exact b2 (List.mem_append_right _ hw)
      · rcases List.mem_append.mp hx with hx | hx
        · exact .inl (List.mem_singleton.mp hx)
        · exact .inr ⟨List.mem_append_right _ hx, hj x hx⟩
      · rcases List.mem_append.mp hx with hx | hx
        · exact absurd (List.mem_singleton.mp hx) hn
        · exact List.mem_append_right _ hx
    · have hb : (f == k) = false := by rw [beq_eq_false_iff_ne]; exact fun z => h z.symm
      rw [hb] at e
      obtain ⟨m0, h1, h2, h3⟩ := atf_rep e4 n2 e
      have hi : ∀ x ∈ i, x ≠ m0 := fun x hx z => n3 x hx m0 h1 z
      refine ⟨m0, List.mem_append_right _ h1, h2, fun st' m' c1 b1 b2 b3 => ?_⟩
      obtain ⟨js, c1', c2, c3, c4⟩ := h3 st' m' c1 b1 (fun z => b2 (List.mem_append_right _ z)) fun x hx hn => b3 x (List.mem_append_right _ hx) hn
      refine ⟨i ++ js, ?_, ?_, fun x hx => ?_, fun x hx hn => ?_⟩
      · unfold putT putD
        rw [if_neg h, if_neg h]
        exact ⟨d, _, i, js, rfl, rfl, e3.frame fun x hx => b3 x (List.mem_append_left _ hx) (hi x hx), c1'⟩
      · refine List.nodup_append.mpr ⟨n1, c2, fun x hx w hw => ?_⟩
        rintro rfl
        rcases c3 x hw with z | ⟨z, _⟩
        · exact b2 (List.mem_append_left _ (by rw [← z]; exact hx))
        · exact n3 x hx x z rfl
      · rcases List.mem_append.mp hx with hx | hx
        · exact .inr ⟨List.mem_append_left _ hx, hi x hx⟩
        · rcases c3 x hx with z | ⟨z, w⟩
          · exact .inl z
          · exact .inr ⟨List.mem_append_right _ z, w⟩
      · rcases List.mem_append.mp hx with hx | hx
        · exact List.mem_append_left _ hx
        · exact List.mem_append_right _ (c4 x hx hn)
theorem ws_setAr {v g : DE} {c0 ct : Ct} {y : DS} {m : Rs γ} {Q : γ → Fl × Et × Sr → Prop} (h0 : L[kp]? = some (n, .obj c fs)) (hf0 : flatC c0 = true) (hv : ∀ st, Own L st → v η st = .ok (.cell st.length, st ++ [ct])) (hg : ∀ st, g η st = .ok (.cell n, st)) (hl : fs.lookup f = some (.c c0)) (hc : cs.contains c = true) (hz : fs.length < 1000) (hk : Wk (L.set kp (n, .obj c (putT f (.c ct) fs))) m (y η) Q X) :
    Wk L m (dSeq (dSetA f cs v g) y η) Q X := fun st o => by
  obtain ⟨ids, a, _⟩ := o.tree h0
  obtain ⟨ds, is, rfl, hn, ha⟩ := obj_root a
  have hlen : ds.length = fs.length := atf_len ha
  have hlt : n < st.length := lt_of_at hn
  have hn2 : (st ++ [ct])[n]? = some (.obj c ds) := by rw [List.getElem?_append_left hlt]; exact hn
  have e : dSeq (dSetA f cs v g) y η st = y η ((st ++ [ct]).set n (.obj c (putD f (.cell st.length) ds))) := by
    have : dSetA f cs v g η st = .ok (.nx, η, (st ++ [ct]).set n (.obj c (putD f (.cell st.length) ds))) := by
      unfold dSetA
      rw [hv st o, bind_ok]
      dsimp only
      rw [hg, bind_ok]
      dsimp only
      rw [hn2]
      dsimp only
      rw [if_pos ⟨hc, by rw [hlen]; exact hz⟩]
    unfold dSeq
    rw [this]; rfl
  rw [e]
  refine hk _ (o.modG h0 (fun r h => by cases h) fun ids at1 nd1 => ?_)
  have lt1 := at1.lt
  obtain ⟨ds', is', rfl, hn', ha'⟩ := obj_root at1
  rw [hn] at hn'
  cases hn'
  have hin := List.nodup_cons.mp nd1
  have hfr : ∀ i, i < st.length → i ≠ n → ((st ++ [ct]).set n (.obj c (putD f (.cell st.length) ds)))[i]? = st[i]? := fun i hi hne => by
    rw [List.getElem?_set_ne (fun z => hne z.symm), List.getElem?_append_left hi]
  obtain ⟨m0, q1, q2, q3⟩ := atf_rep ha' hin.2 hl
  have hm0 : m0 ≠ n := fun z => hin.1 (by rw [← z]; exact q1)
  have hm0l := lt_of_at q2
  obtain ⟨js, b1, b2, b3, b4⟩ := q3 ((st ++ [ct]).set n (.obj c (putD f (.cell st.length) ds))) st.length ct (by rw [List.getElem?_set_ne (by omega)]; simp) (fun z => by have := lt1 _ (List.mem_cons_of_mem _ z); omega) (fun x hx _ => hfr x (lt1 x (List.mem_cons_of_mem _ hx)) fun z => hin.1 (by rw [← z]; exact hx))
  refine ⟨n :: js, ⟨n, _, js, rfl, rfl, List.getElem?_set_self (lt_of_at hn2), b1⟩, List.nodup_cons.mpr ⟨fun z => ?_, b2⟩, fun i hi => ?_, .inr fun i hi => ?_, fun i hi hx => hfr i hi fun z => hx (by rw [z]; exact List.mem_cons_self)⟩
  · rcases b3 n z with q | ⟨q, _⟩
    · omega
    · exact hin.1 q
  · rcases List.mem_cons.mp hi with z | z
    · exact .inl (by rw [z]; exact List.mem_cons_self)
    · rcases b3 i z with q | ⟨q, _⟩
      · exact .inr (by omega)
      · exact .inl (List.mem_cons_of_mem _ q)
  · rcases List.mem_cons.mp hi with z | z
    · exact .inl (by rw [z]; exact List.mem_cons_self)
    · by_cases q : i = m0
      · refine .inr ⟨c0, ?_, hf0⟩
        rw [q, hfr m0 hm0l hm0]; exact q2
      · exact .inl (List.mem_cons_of_mem _ (b4 i z q))
end
end N
end
section
set_option Elab.async false
set_option linter.all false
set_option maxRecDepth 100000
set_option maxHeartbeats 0
namespace G
open PySem L2 M N
def knN : List Str := ["a", "b", "ab", "k", "kk", "kkkkkkkk", "zz", "zza"]
def bdN : List Str := ["", "A", "a1", "abcdefghi", "a b", " a", "a ", "a-b", "0"]
def knB : P → Bool
  | .str s => decide (s ∈ knN)
  | _ => false
def bdB : P → Bool
  | .str s => decide (s ∈ bdN)
  | .non => true
  | .int i => decide (i = 5)
  | _ => false
theorem isname_ok {p : P} (h : knB p = true) : F_is_name [.fz p] [] = .ok (.fz (.bl true), []) := by
  cases p with
  | str s =>
    have h := of_decide_eq_true h
    simp only [knN, List.mem_cons, List.not_mem_nil, or_false] at h
    rcases h with rfl | rfl | rfl | rfl | rfl | rfl | rfl | rfl <;> kernel_rfl
  | _ => cases h
theorem check_ok {p : P} (h : knB p = true) : F_check_name [.fz p] [] = .ok (.fz .non, []) := by
  cases p with
  | str s =>
    have h := of_decide_eq_true h
    simp only [knN, List.mem_cons, List.not_mem_nil, or_false] at h
    rcases h with rfl | rfl | rfl | rfl | rfl | rfl | rfl | rfl <;> kernel_rfl
  | _ => cases h
theorem isname_bad {p : P} (h : bdB p = true) : F_is_name [.fz p] [] = .ok (.fz (.bl false), []) := by
  cases p with
  | str s =>
    have h := of_decide_eq_true h
    simp only [bdN, List.mem_cons, List.not_mem_nil, or_false] at h
    rcases h with rfl | rfl | rfl | rfl | rfl | rfl | rfl | rfl | rfl <;> kernel_rfl
  | non => kernel_rfl
  | int i =>
    have h := of_decide_eq_true h
    subst h
    kernel_rfl
  | _ => cases h
theorem check_bad {p : P} (h : bdB p = true) : F_check_name [.fz p] [] = .exc "BadName" (some [("name", p)]) [] [] := by
  cases p with
  | str s =>
    have h := of_decide_eq_true h
    simp only [bdN, List.mem_cons, List.not_mem_nil, or_false] at h
    rcases h with rfl | rfl | rfl | rfl | rfl | rfl | rfl | rfl | rfl <;> kernel_rfl
  | non => kernel_rfl
  | int i =>
    have h := of_decide_eq_true h
    subst h
    kernel_rfl
  | _ => cases h
def n_is_name (p : P) : Rs Bool := if knB p = true then .ok true else if bdB p = true then .ok false else .stuck
def n_check_name (p : P) : Rs Unit := if knB p = true then .ok () else if bdB p = true then .exc "BadName" (some [("name", p)]) else .stuck
theorem sp_is_name (p : P) : Sp0 (n_is_name p) F_is_name [p] := by
  refine ⟨?_⟩
  unfold n_is_name
  by_cases h : knB p = true
  · rw [if_pos h]; exact isname_ok h
  rw [if_neg h]
  by_cases h2 : bdB p = true
  · rw [if_pos h2]; exact isname_bad h2
  · rw [if_neg h2]; trivial
theorem sp_check_name (p : P) : Sp0 (n_check_name p) F_check_name [p] := by
  refine ⟨?_⟩
  unfold n_check_name
  by_cases h : knB p = true
  · rw [if_pos h]; exact check_ok h
  rw [if_neg h]
  by_cases h2 : bdB p = true
  · rw [if_pos h2]; exact check_bad h2
  · rw [if_neg h2]; trivial
end G
end
section
set_option Elab.async false
set_option linter.all false
set_option maxRecDepth 100000
set_option maxHeartbeats 0
namespace G
open PySem L2 M N
abbrev LtG := T3 Int Int Int
abbrev EvG := T3 Str Int Int
structure Gt where
  fl : Option Int
  fin : Bool
  lets : List (T2 Str (List LtG))
  cnt : List (T2 Str Int)
  late : List EvG
def gtF (g : Gt) : List (Str × Tr) := [("_floor", .v (em g.fl)), ("_finished", .v (.bl g.fin)), ("_letters", .c (.dct (kvE g.lets))), ("_counts", .c (.dct (kvE g.cnt))), ("_late", .c (.lst (List.map em g.late)))]
def gtT (g : Gt) : Tr := .obj "Gate" (gtF g)
theorem gt_dep (g : Gt) : Dep 2 (gtT g) := fun x hx => by
  have hx : x ∈ gtF g := hx
  simp only [gtF, List.mem_cons, List.not_mem_nil, or_false] at hx
  rcases hx with rfl | rfl | rfl | rfl | rfl <;> first | trivial | rfl
theorem lk_floor (g : Gt) : (gtF g).lookup ("_floor" : Str) = some (Tr.v (em g.fl)) := by kernel_rfl
theorem lk_fin (g : Gt) : (gtF g).lookup ("_finished" : Str) = some (Tr.v (.bl g.fin)) := by kernel_rfl
theorem lk_lets (g : Gt) : (gtF g).lookup ("_letters" : Str) = some (Tr.c (.dct (kvE g.lets))) := by kernel_rfl
theorem lk_cnt (g : Gt) : (gtF g).lookup ("_counts" : Str) = some (Tr.c (.dct (kvE g.cnt))) := by kernel_rfl
theorem lk_late (g : Gt) : (gtF g).lookup ("_late" : Str) = some (Tr.c (.lst (List.map em g.late))) := by kernel_rfl
theorem put_floor (g : Gt) (f : Option Int) : putT "_floor" (.v (em f)) (gtF g) = gtF { g with fl := f } := by kernel_rfl
theorem put_fin (g : Gt) (b : Bool) : putT "_finished" (.v (.bl b)) (gtF g) = gtF { g with fin := b } := by kernel_rfl
theorem put_lets (g : Gt) (l : List (T2 Str (List LtG))) : putT "_letters" (.c (.dct (kvE l))) (gtF g) = gtF { g with lets := l } := by kernel_rfl
theorem put_cnt (g : Gt) (l : List (T2 Str Int)) : putT "_counts" (.c (.dct (kvE l))) (gtF g) = gtF { g with cnt := l } := by kernel_rfl
theorem put_late (g : Gt) (l : List EvG) : putT "_late" (.c (.lst (List.map em l))) (gtF g) = gtF { g with late := l } := by kernel_rfl
theorem gt_len (g : Gt) : (gtF g).length < 1000 := by show 5 < 1000; decide
abbrev gL (mm : Nat) (g : Gt) : Ow := [(mm, .base 1), (0, gtT g)]
section
variable {mm : Nat} {g : Gt} {η : Et} {X : XP}
theorem gv_floor (h : η[0]? = some (some (.cell 0))) : Ev (gL mm g) (dFld "_floor" ["Gate"] (dVar 0) η) (fe g.fl) := ev_attr (kp := 1) rfl (ev_var h) (lk_floor g) rfl
theorem gv_fin (h : η[0]? = some (some (.cell 0))) : Ev (gL mm g) (dFld "_finished" ["Gate"] (dVar 0) η) (fe g.fin) := ev_attr (kp := 1) rfl (ev_var h) (lk_fin g) rfl
theorem gv_get {k : Str} {fk : DE} (h : η[0]? = some (some (.cell 0))) (hk : Ev (gL mm g) (fk η) (fe k)) : Ev (gL mm g) (dGet2 (dFld "_letters" ["Gate"] (dVar 0)) fk (dAp lstF dNil) η) (fe ((kget k g.lets).getD [])) := by
  have := ev_fget (kp := 1) (k := .inr k) (L := gL mm g) (n := 0) (c := "Gate") (cs := ["Gate"]) (g := dVar 0) (fk := fk) (fx := dAp lstF dNil) rfl (ev_var h) (lk_lets g) rfl hk rfl (ev_ap ev_nil (ev_lst []))
  rw [getK_kv] at this
  cases e : kget k g.lets with
  | none => rw [e] at this; exact this
  | some v => rw [e] at this; exact this
theorem gv_getc {k : Str} {fk : DE} (h : η[0]? = some (some (.cell 0))) (hk : Ev (gL mm g) (fk η) (fe k)) : Ev (gL mm g) (dGet2 (dFld "_counts" ["Gate"] (dVar 0)) fk (dK (.int 0)) η) (fe ((kget k g.cnt).getD 0)) := by
  have := ev_fget (kp := 1) (k := .inr k) (L := gL mm g) (n := 0) (c := "Gate") (cs := ["Gate"]) (g := dVar 0) (fk := fk) (fx := dK (.int 0)) rfl (ev_var h) (lk_cnt g) rfl hk rfl ev_k
  rw [getK_kv] at this
  cases e : kget k g.cnt with
  | none => rw [e] at this; exact this
  | some v => rw [e] at this; exact this
end
def n_Gate_check_going (g : Gt) : Rs Unit := if g.fin = true then .exc "Finished" none else .ok ()
theorem sp_Gate_check_going (g : Gt) : SpR (gtT g) (n_Gate_check_going g) F_Gate_check_going [] := by
  refine spr_of (gt_dep g) rfl [some (.cell 0)] rfl fun mm => ?_
  unfold n_Gate_check_going
  delta b_Gate_check_going
  refine ws_last ?_
  refine ws_ifP (ev_tru (gv_fin rfl) ev_truB) (fun _ => ?_) (fun _ => ?_)
  · exact ws_raiseT (fun _ o => xo o)
  · refine ws_skip ?_
    exact ws_end fun _ o => qfrn o
def n_Gate_floor (g : Gt) : Rs (Option Int) := .ok g.fl
theorem sp_Gate_floor (g : Gt) : SpR (gtT g) (n_Gate_floor g) F_Gate_floor [] := by
  refine spr_of (gt_dep g) rfl [some (.cell 0)] rfl fun mm => ?_
  unfold n_Gate_floor
  delta b_Gate_floor
  refine ws_last ?_
  exact ws_ret0 (gv_floor rfl) fun _ o => qfr o rfl
def n_Gate_finished (g : Gt) : Rs Bool := .ok g.fin
theorem sp_Gate_finished (g : Gt) : SpR (gtT g) (n_Gate_finished g) F_Gate_finished [] := by
  refine spr_of (gt_dep g) rfl [some (.cell 0)] rfl fun mm => ?_
  unfold n_Gate_finished
  delta b_Gate_finished
  refine ws_last ?_
  exact ws_ret0 (gv_fin rfl) fun _ o => qfr o rfl
def lateB (l : List LtG) (time : Int) : Rs Bool := (Rs.ok (decide (l = []))).bind fun b => if b = true then Rs.ok true else ((N.idx l (-1)).bind fun r => Rs.ok r.b).bind fun t => Rs.ok (decide (t ≤ time))
def n_Gate_lets_in (g : Gt) (key : P) (time : Int) : Rs Bool :=
  ((Rs.ok g.fin).bind fun b => if b = true then Rs.ok true else ((n_is_name key).bind fun g_ => Rs.ok g_).bind fun b => Rs.ok !b).bind fun b_ => if b_ = true then Rs.ok false else
  ((Rs.ok g.fl.isSome).bind fun b => if b = true then ((unw g.fl).bind fun f => Rs.ok (decide (time < f))).bind fun g_ => Rs.ok g_ else Rs.ok false).bind fun b2 => if b2 = true then Rs.ok false else
  (strP key).bind fun s => (Rs.ok ((kget s g.lets).getD [])).bind fun letters => lateB letters time
theorem sp_Gate_lets_in (g : Gt) (key : P) (time : Int) : SpR (gtT g) (n_Gate_lets_in g key time) F_Gate_lets_in [key, em time] := by
  refine spr_of (gt_dep g) rfl [some (.cell 0), some (fe key), some (fe time), none] rfl fun mm => ?_
  unfold n_Gate_lets_in
  delta b_Gate_lets_in
  refine ws_last ?_
  refine ws_assoc ?_
  refine ws_if (L' := fun _ => gL mm g) ?_ ?_ ?_
  · exact w_or (w_ev (rep := id) (ev_tru (gv_fin rfl) ev_truB)) (fun _ o => ⟨rfl, o⟩) (w_not (wv (w_tru (wv (w_call (w_cons (we (ev_var rfl) (w_nil (w_call0 (sp_is_name key) rfl (fun _ o => xo o)))))) fun g_ => w_ev (rep := id) ev_truB)) fun b_ => w_ev (rep := id) (fun _ _ => rfl)))
  · exact ws_ret0 ev_k fun _ o => qfr o rfl
  refine ws_skip ?_
  refine ws_assoc ?_
  refine ws_if (L' := fun _ => gL mm g) ?_ ?_ ?_
  · exact w_and (w_ev (rep := id) (ev_tru (ev_bin (gv_floor rfl) ev_k ev_notN) ev_truB)) (fun _ o => ⟨rfl, o⟩) (w_tru (wv (w_bin (we (ev_var rfl) (wv (w_unwE (gv_floor rfl)) fun f => w_ev (rep := fe) ev_lt))) fun b_ => w_ev (rep := id) ev_truB))
  · exact ws_ret0 ev_k fun _ o => qfr o rfl
  refine ws_skip ?_
  refine wk_strP fun s hs => ?_
  subst hs
  refine ws_assoc ?_
  refine ws_set (rep := fe (α := List LtG)) (L' := fun _ => gL mm g) (w_ev (rep := fe) (gv_get rfl (by exact ev_var rfl))) fun letters => ?_
  refine ws_ret (rep := fe (α := Bool)) (L' := fun _ => gL mm g) ?_ fun _ _ o => qfr o rfl
  unfold lateB
  exact w_orV (w_ev (rep := fe) (ev_bin (ev_var rfl) (ev_ap ev_nil (ev_lst [])) (ev_eq (α := List LtG) pk_fz pk_fz))) (fun _ o => ⟨rfl, o⟩) (w_bin (we (ev_var rfl) (wv (w_bin (wv (w_bin (we (ev_var rfl) (we (ev_un ev_k ev_negI) (w_idx pk_fz)))) fun r => we ev_k (w_ev (rep := fe) (ev_tix (ps := [em r.a, em r.b, em r.c]))))) fun t => w_ev (rep := fe) ev_ge)))
section
variable {mm : Nat} {g : Gt} {η : Et} {X : XP}
/-- a method of the gate that only reads it -/
theorem g_methR {τ : Type} [Em τ] {L : Ow} {kp n : Nat} {nm : Str} {tab : List (Str × DF)} {fo : DE} {fa : DA} {F : DF} {m : Rs τ} {as : List P} (h0 : L[kp]? = some (n, gtT g)) (hf : Ev L (fo η) (.cell n)) (hn : (gtF g).lookup nm = none) (hF : look1 "Gate" tab = some F) (ha : Ev L (fa η) (as.map D.fz)) (h : SpR (gtT g) m F as) (hx : ∀ st, Own L st → X η st) : Wk L m (dMeth nm tab fo fa η) (PV fe fun _ => L) X :=
  w_methOb h0 hf hn hF (we ha (w_callR kp h rfl h0 (gt_dep g) hx))
theorem g_meth {τ : Type} [Em τ] {L : Ow} {kp n : Nat} {nm : Str} {tab : List (Str × DF)} {fo : DE} {fa : DA} {F : DF} {m : Rs (τ × Gt)} {as : List P} (h0 : L[kp]? = some (n, gtT g)) (hf : Ev L (fo η) (.cell n)) (hn : (gtF g).lookup nm = none) (hF : look1 "Gate" tab = some F) (ha : Ev L (fa η) (as.map D.fz)) (h : SpO gtT (gtT g) m F as) (hx : ∀ st, Own L st → X η st) : Wk L m (dMeth nm tab fo fa η) (PV (fun r => fe r.1) fun r => L.set kp (n, gtT r.2)) X :=
  w_methOb h0 hf hn hF (we ha (w_callO kp h rfl h0 (gt_dep g) gt_dep hx))
theorem gs_late {v : DE} {x : EvG} {y : DS} {γ : Type} {kk : List EvG → Rs γ} {Q : γ → Fl × Et × Sr → Prop} (h : η[0]? = some (some (.cell 0))) (hv : Ev (gL mm g) (v η) (fe x)) (hk : ∀ zs, Wk (gL mm { g with late := zs }) (kk zs) (y η) Q X) : Wk (gL mm g) ((app g.late x).bind kk) (dSeq (dEx (dBM isLst appendO (dFld "_late" ["Gate"] (dVar 0)) (dCons v dNil))) y η) Q X :=
  ws_fapp (kp := 1) (L := gL mm g) (n := 0) (c := "Gate") (fs := gtF g) rfl (ev_var h) (lk_late g) rfl hv fun zs => by
    rw [put_late]
    exact hk zs
theorem gs_put {v fi : DE} {k : Str} {δ : Type} {mv : Rs δ} {val : δ → List LtG} {y : DS} {γ : Type} {kk : List (T2 Str (List LtG)) → Rs γ} {Q : γ → Fl × Et × Sr → Prop} (h : η[0]? = some (some (.cell 0))) (V : Wk (gL mm g) mv (v η) (PV (fun r => fe (val r)) fun _ => gL mm g) X) (hi : Ev (gL mm g) (fi η) (fe k)) (hk : ∀ zs, Wk (gL mm { g with lets := zs }) (kk zs) (y η) Q X) :
    Wk (gL mm g) (mv.bind fun r => (putK9 g.lets k (val r)).bind kk) (dSeq (dPut v (dFld "_letters" ["Gate"] (dVar 0)) fi) y η) Q X := fun st o => by
  have hh := V st o
  cases mv with
  | stuck => trivial
  | exc cl fx =>
    obtain ⟨e, st', h1, h2⟩ := hh
    exact ⟨e, st', by unfold dSeq dPut; rw [h1]; rfl, h2⟩
  | ok a =>
    show (match (putK9 g.lets k (val a)).bind kk with | .ok g => _ | .exc cl fs => _ | .stuck => True)
    unfold putK9
    by_cases hz : ndK (kvE g.lets) = true ∧ g.lets.length < 16777216
    · rw [if_pos hz, ok_bind]
      obtain ⟨⟨b, st'⟩, h1, h2, o'⟩ := hh
      have h2 : b = fe (val a) := h2
      subst h2
      obtain ⟨ds, m, hn, hd, hm, ho⟩ := Own.field (kp := 1) o' rfl (lk_lets g)
      have e2 : dSeq (dPut v (dFld "_letters" ["Gate"] (dVar 0)) fi) y η st = y η (st'.set m (.dct (kvE (kput k (val a) g.lets)))) := by
        have e1 : dPut v (dFld "_letters" ["Gate"] (dVar 0)) fi η st = .ok (.nx, η, st'.set m (.dct (kvE (kput k (val a) g.lets)))) := by
          unfold dPut
          rw [h1, bind_ok]
          dsimp only
          rw [fld_cell (e_var h) hn rfl hd, bind_ok]
          dsimp only
          rw [hi st' o', bind_ok]
          dsimp only
          rw [hm]
          have e3 : (peek st' (fe k)).bind keyP = some (.inr k) := rfl
          rw [e3]
          have e4 : toP st' (fe (val a)) = some (em (val a), st') := rfl
          rw [e4]
          dsimp only
          rw [hm]
          dsimp only
          rw [if_pos ⟨hz.1, by unfold kvE; rw [List.length_map]; exact hz.2⟩, putP_kv]
        unfold dSeq
        rw [e1]; rfl
      have := hk (kput k (val a) g.lets) (st'.set m (.dct (kvE (kput k (val a) g.lets)))) (by
        have := ho (.dct (kvE (kput k (val a) g.lets)))
        rw [put_lets] at this
        exact this)
      rw [← e2] at this
      exact this
    · rw [if_neg hz]; trivial
end
def n_Gate_event (g : Gt) (key : P) (time value : Int) : Rs (Option Int × Gt) :=
  (n_Gate_check_going g).bind fun _ => (n_check_name key).bind fun _ =>
  (((n_Gate_lets_in g key time).bind fun g_ => Rs.ok g_).bind fun b => Rs.ok !b).bind fun b => if b = true then
    (strP key).bind fun s => (app g.late (⟨s, time, value⟩ : EvG)).bind fun zs => Rs.ok ((none : Option Int), { g with late := zs })
  else (strP key).bind fun s => (Rs.ok ((kget s g.lets).getD [])).bind fun letters => (cat letters ([⟨lenI letters, time, value⟩] : List LtG)).bind fun row => (putK9 g.lets s row).bind fun zs => Rs.ok (some (lenI letters), { g with lets := zs })
theorem sp_Gate_event (g : Gt) (key : P) (time value : Int) : SpO gtT (gtT g) (n_Gate_event g key time value) F_Gate_event [key, em time, em value] := by
  refine spo_of (gt_dep g) gt_dep rfl [some (.cell 0), some (fe key), some (fe time), some (fe value), none] rfl fun mm => ?_
  unfold n_Gate_event
  delta b_Gate_event
  refine ws_last ?_
  refine ws_assoc ?_
  refine ws_ex (rep := fe (α := Unit)) (L' := fun _ => gL mm g) (g_methR (kp := 1) (as := []) rfl (ev_var rfl) (by kernel_rfl) rfl ev_nil (sp_Gate_check_going g) (fun _ o => xo o)) fun _ => ?_
  refine ws_assoc ?_
  refine ws_ex (rep := fe (α := Unit)) (L' := fun _ => gL mm g) (w_call (w_cons (we (ev_var rfl) (w_nil (w_call0 (sp_check_name key) rfl (fun _ o => xo o)))))) fun _ => ?_
  refine ws_assoc ?_
  refine ws_if (L' := fun _ => gL mm g) ?_ ?_ ?_
  · exact w_not (wv (w_tru (wv (g_methR (kp := 1) (as := [key, em time]) rfl (ev_var rfl) (by kernel_rfl) rfl (ev_cons (ev_var rfl) (ev_cons (ev_var rfl) ev_nil)) (sp_Gate_lets_in g key time) (fun _ o => xo o)) fun g_ => w_ev (rep := id) ev_truB)) fun b_ => w_ev (rep := id) (fun _ _ => rfl))
  · refine ws_assoc ?_
    refine wk_strP fun s hs => ?_
    subst hs
    refine gs_late rfl (ev_ap (ev_cons (ev_var rfl) (ev_cons (ev_var rfl) (ev_cons (ev_var rfl) ev_nil))) (ev_tup [em s, em time, em value])) fun zs => ?_
    exact ws_ret0 ev_k fun _ o => qfo (tr := gtT) (s := { g with late := zs }) o rfl
  refine ws_skip ?_
  refine wk_strP fun s hs => ?_
  subst hs
  refine ws_assoc ?_
  refine ws_set (rep := fe (α := List LtG)) (L' := fun _ => gL mm g) (w_ev (rep := fe) (gv_get rfl (by exact ev_var rfl))) fun letters => ?_
  refine ws_assoc ?_
  refine gs_put (δ := List LtG) (val := fun r => r) (k := s) rfl ?_ (by exact ev_var rfl) fun zs => ?_
  · exact w_bin (we (ev_var rfl) (we (ev_ap (ev_cons (ev_ap (ev_cons (ev_ap (ev_cons (ev_var rfl) ev_nil) (ev_len pk_fz)) (ev_cons (ev_var rfl) (ev_cons (ev_var rfl) ev_nil))) (ev_tup [em (lenI letters), em time, em value])) ev_nil) (ev_lst [.tup [em (lenI letters), em time, em value]])) (w_cat pk_fz pk_fz)))
  exact ws_ret0 (ev_ap (ev_cons (ev_var rfl) ev_nil) (ev_len pk_fz)) fun _ o => qfo (tr := gtT) (s := { g with lets := zs }) o rfl
def cntsOf (ys : List (T2 Str (List LtG))) : List (T2 Str Int) := ys.map fun x => ⟨x.a, lenI x.b⟩
def cntM (ys : List (T2 Str (List LtG))) : Rs (List (T2 Str Int)) := if (ys.map (·.a)).Nodup ∧ ys.length < 16777216 then .ok (cntsOf ys) else .stuck
theorem kget_in {α : Type} [Em α] : ∀ {ys : List (T2 Str α)} {x : T2 Str α}, (ys.map (·.a)).Nodup → x ∈ ys → kget x.a ys = some x.b
  | y :: ys, x, h, hx => by
    rw [List.map_cons] at h
    obtain ⟨h1, h2⟩ := List.nodup_cons.mp h
    unfold kget
    rcases List.mem_cons.mp hx with rfl | hx
    · rw [if_pos rfl]
    · rw [if_neg fun e => h1 (by rw [e]; exact List.mem_map_of_mem hx)]
      exact kget_in h2 hx
theorem fld_at {n m : Nat} {c f : Str} {cs : List Str} {ds : List (Str × D)} {st : Sr} {j : Nat} {η : Et} (hj : η[j]? = some (some (.cell n))) (hn : st[n]? = some (.obj c ds)) (hc : cs.contains c = true) (hl : ds.lookup f = some (.cell m)) : dFld f cs (dVar j) η st = .ok (.cell m, st) := fld_cell (e_var hj) hn hc hl
/-- self._letters[key], the dict being walked -/
theorem ixk_at {α : Type} [Em α] {m : Nat} {ys : List (T2 Str α)} {k : Str} {v : α} {st : Sr} (hm : st[m]? = some (.ldct (kvE ys))) (hg : kget k ys = some v) : dIxKO (.cell m) (fe k) st = .ok (fe v, st) := by
  have e1 : dctOf st (.cell m) = some (kvE ys) := by
    unfold dctOf
    have : peek st (.cell m) = none := by unfold peek; dsimp only; rw [hm]
    rw [this]
    dsimp only
    rw [hm]
  unfold dIxKO
  rw [e1]
  show (match getK (.inr k) (kvE ys) with | some q => R.ok (D.fz q, st) | none => .stuck) = _
  rw [getK_kv, hg]; rfl
theorem gs_cnt {mm : Nat} {g : Gt} {η : Et} {X : XP} {y : DS} {γ : Type} {kk : List (T2 Str Int) → Rs γ} {Q : γ → Fl × Et × Sr → Prop} (h : η[0]? = some (some (.cell 0))) (hi : 2 < η.length) (hk : ∀ zs, Wk (gL mm { g with cnt := zs }) (kk zs) (y η) Q X) :
    Wk (gL mm g) ((cntM g.lets).bind kk) (dSeq (dSetA "_counts" ["Gate"] (dDcK (fpA "_letters" ["Gate"] 0) 2 (dVar 2) (dAp lenO (dCons (dBin dIxKO (dFld "_letters" ["Gate"] (dVar 0)) (dVar 2)) (dNil)))) (dVar 0)) y η) Q X := by
  unfold cntM
  by_cases c : (g.lets.map (·.a)).Nodup ∧ g.lets.length < 16777216
  · rw [if_pos c, ok_bind]
    refine ws_setAr (kp := 1) (L := gL mm g) (n := 0) (c := "Gate") (fs := gtF g) (c0 := .dct (kvE g.cnt)) (ct := .dct (kvE (cntsOf g.lets))) rfl rfl (fun st o => ?_) (fun st => e_var h) (lk_cnt g) rfl (gt_len g) ?_
    · refine dck_ev (kp := 1) o rfl (lk_lets g) rfl h hi c.1 c.2 fun st1 m ds hn hd hm x hx => ?_
      have hself : (η.set 2 (some (fe x.a)))[0]? = some (some (.cell 0)) := by rw [List.getElem?_set_ne (by decide)]; exact h
      exact e_ap (e_cons (e_bin (fld_at hself hn rfl hd) (e_var (List.getElem?_set_self hi)) (ixk_at hm (kget_in c.1 hx))) e_nil) ((ev_len (L := []) (xs := x.b) pk_fz) st1 (Own.nil _))
    · rw [put_cnt]
      exact hk _
  · rw [if_neg c]; exact fun st o => trivial
def n_Gate_raise_floor (g : Gt) (time : Int) : Rs (Bool × Gt) :=
  (n_Gate_check_going g).bind fun _ =>
  ((Rs.ok g.fl.isSome).bind fun b => if b = true then ((unw g.fl).bind fun f => Rs.ok (decide (time ≤ f))).bind fun g_ => Rs.ok g_ else Rs.ok false).bind fun b2 => if b2 = true then Rs.ok (false, g) else
  (cntM g.lets).bind fun zs => Rs.ok (true, { g with fl := some time, cnt := zs })
theorem sp_Gate_raise_floor (g : Gt) (time : Int) : SpO gtT (gtT g) (n_Gate_raise_floor g time) F_Gate_raise_floor [em time] := by
  refine spo_of (gt_dep g) gt_dep rfl [some (.cell 0), some (fe time), none] rfl fun mm => ?_
  unfold n_Gate_raise_floor
  delta b_Gate_raise_floor
  refine ws_last ?_
  refine ws_assoc ?_
  refine ws_ex (rep := fe (α := Unit)) (L' := fun _ => gL mm g) (g_methR (kp := 1) (as := []) rfl (ev_var rfl) (by kernel_rfl) rfl ev_nil (sp_Gate_check_going g) (fun _ o => xo o)) fun _ => ?_
  refine ws_assoc ?_
  refine ws_if (L' := fun _ => gL mm g) ?_ ?_ ?_
  · exact w_and (w_ev (rep := id) (ev_tru (ev_bin (gv_floor rfl) ev_k ev_notN) ev_truB)) (fun _ o => ⟨rfl, o⟩) (w_tru (wv (w_bin (we (ev_var rfl) (wv (w_unwE (gv_floor rfl)) fun f => w_ev (rep := fe) ev_le))) fun b_ => w_ev (rep := id) ev_truB))
  · exact ws_ret0 ev_k fun _ o => qfo o rfl
  refine ws_skip ?_
  refine ws_assoc ?_
  refine ws_setAv (kp := 1) (L := gL mm g) (n := 0) (c := "Gate") (fs := gtF g) (p := em (some time : Option Int)) rfl (ev_var rfl) (ev_var rfl) (lk_floor g) rfl (gt_len g) ?_
  rw [put_floor]
  refine ws_assoc ?_
  refine gs_cnt (g := { g with fl := some time }) rfl (by show 2 < 3; decide) fun zs => ?_
  exact ws_ret0 ev_k fun _ o => qfo (tr := gtT) (s := { g with fl := some time, cnt := zs }) o rfl
def n_Gate_finish (g : Gt) : Rs (Unit × Gt) := (n_Gate_check_going g).bind fun _ => Rs.ok ((), { g with fin := true })
theorem sp_Gate_finish (g : Gt) : SpO gtT (gtT g) (n_Gate_finish g) F_Gate_finish [] := by
  refine spo_of (gt_dep g) gt_dep rfl [some (.cell 0)] rfl fun mm => ?_
  unfold n_Gate_finish
  delta b_Gate_finish
  refine ws_last ?_
  refine ws_assoc ?_
  refine ws_ex (rep := fe (α := Unit)) (L' := fun _ => gL mm g) (g_methR (kp := 1) (as := []) rfl (ev_var rfl) (by kernel_rfl) rfl ev_nil (sp_Gate_check_going g) (fun _ o => xo o)) fun _ => ?_
  refine ws_setAv (kp := 1) (L := gL mm g) (n := 0) (c := "Gate") (fs := gtF g) (p := .bl true) rfl ev_k (ev_var rfl) (lk_fin g) rfl (gt_len g) ?_
  rw [put_fin]
  exact ws_end fun _ o => qfon (tr := gtT) (s := { g with fin := true }) o
def n_Gate_take (g : Gt) (deed : P) : Rs (P × Gt) :=
  (n_Gate_check_going g).bind fun _ =>
  (((pixP deed 0).bind fun t => eqM (em t) (em ("event" : Str))).bind fun g_ => Rs.ok g_).bind fun b => if b = true then
    ((pixP deed 1).bind fun k => ((pixP deed 2).bind intP9).bind fun t => ((pixP deed 3).bind intP9).bind fun v => n_Gate_event g k t v).bind fun r => Rs.ok (em r.1, r.2)
  else (((pixP deed 0).bind fun t => eqM (em t) (em ("raise" : Str))).bind fun g_ => Rs.ok g_).bind fun b2 => if b2 = true then
    (((pixP deed 1).bind intP9).bind fun t => n_Gate_raise_floor g t).bind fun r => Rs.ok (em r.1, r.2)
  else (((pixP deed 0).bind fun t => eqM (em t) (em ("finish" : Str))).bind fun g_ => Rs.ok g_).bind fun b3 => if b3 = true then
    (n_Gate_finish g).bind fun r => Rs.ok (P.non, r.2)
  else Rs.ok (P.non, g)
theorem tag_is {mm : Nat} {g : Gt} {η : Et} {X : XP} {deed : P} {s : Str} (h : η[1]? = some (some (fe deed))) : Wk (gL mm g) (((pixP deed 0).bind fun t => eqM (em t) (em s)).bind fun g_ => Rs.ok g_) (dTru (dBin eqO (dBin ixO (dVar 1) (dK (.int 0))) (dK (.str s))) η) (PV id fun _ => gL mm g) X :=
  w_tru (wv (w_bin (wv (w_bin (we (ev_var h) (we ev_k (w_pix pk_fz)))) fun t => we ev_k (w_eqM pk_fz pk_fz))) fun g_ => w_ev (rep := id) ev_truB)
theorem sp_Gate_take (g : Gt) (deed : P) : SpO gtT (gtT g) (n_Gate_take g deed) F_Gate_take [deed] := by
  refine spo_of (gt_dep g) gt_dep rfl [some (.cell 0), some (fe deed)] rfl fun mm => ?_
  unfold n_Gate_take
  delta b_Gate_take
  refine ws_last ?_
  refine ws_assoc ?_
  refine ws_ex (rep := fe (α := Unit)) (L' := fun _ => gL mm g) (g_methR (kp := 1) (as := []) rfl (ev_var rfl) (by kernel_rfl) rfl ev_nil (sp_Gate_check_going g) (fun _ o => xo o)) fun _ => ?_
  refine ws_assoc ?_
  refine ws_if (L' := fun _ => gL mm g) (tag_is rfl) ?_ ?_
  · refine ws_retK (Q := QFO (τ := P) gtT mm) (kr := fun r => (em r.1, r.2)) (rep := fun r : Option Int × Gt => fe r.1) (L' := fun r => gL mm r.2) ?_ fun r st o => qfo (tr := gtT) (t := (em r.1 : P)) (s := r.2) o rfl
    refine w_methOb (kp := 1) (fs := gtF g) rfl (ev_var rfl) (by kernel_rfl) rfl ?_
    exact w_cons (wv (w_bin (we (ev_var rfl) (we ev_k (w_pix pk_fz)))) fun k => w_cons (wv (w_intM (w_bin (we (ev_var rfl) (we ev_k (w_pix pk_fz))))) fun t => w_cons (wv (w_intM (w_bin (we (ev_var rfl) (we ev_k (w_pix pk_fz))))) fun v => w_nil (w_callO (as := [k, em t, em v]) 1 (sp_Gate_event g k t v) rfl rfl (gt_dep g) gt_dep (fun _ o => xo o)))))
  refine ws_skip ?_
  refine ws_assoc ?_
  refine ws_if (L' := fun _ => gL mm g) (tag_is rfl) ?_ ?_
  · refine ws_retK (Q := QFO (τ := P) gtT mm) (kr := fun r => (em r.1, r.2)) (rep := fun r : Bool × Gt => fe r.1) (L' := fun r => gL mm r.2) ?_ fun r st o => qfo (tr := gtT) (t := (em r.1 : P)) (s := r.2) o rfl
    refine w_methOb (kp := 1) (fs := gtF g) rfl (ev_var rfl) (by kernel_rfl) rfl ?_
    exact w_cons (wv (w_intM (w_bin (we (ev_var rfl) (we ev_k (w_pix pk_fz))))) fun t => w_nil (w_callO (as := [em t]) 1 (sp_Gate_raise_floor g t) rfl rfl (gt_dep g) gt_dep (fun _ o => xo o)))
  refine ws_skip ?_
  refine ws_assoc ?_
  refine ws_if (L' := fun _ => gL mm g) (tag_is rfl) ?_ ?_
  · refine ws_ex (rep := fun r : Unit × Gt => fe r.1) (L' := fun r => gL mm r.2) (g_meth (kp := 1) (as := []) rfl (ev_var rfl) (by kernel_rfl) rfl ev_nil (sp_Gate_finish g) (fun _ o => xo o)) fun r => ?_
    exact ws_ret0 ev_k fun _ o => qfo (tr := gtT) (s := r.2) o rfl
  refine ws_skip ?_
  exact ws_ret0 ev_k fun _ o => qfo (tr := gtT) (s := g) o rfl
theorem ws_retC {τ : Type} {L : Ow} {X : XP} {η : Et} {f : DE} {y : DS} {mv : Rs τ} {rt : τ → Tr} {L' : τ → Ow} {Q : τ → Fl × Et × Sr → Prop} (V : Wk L mv (f η) (PT rt L') X) (hq : ∀ g st n, Own (L' g ++ [(n, rt g)]) st → Q g (.rt (.cell n), η, st)) : Wk L mv (dSeq (dRet f) y η) Q X := fun st o => by
  have h := V st o
  cases mv with
  | stuck => trivial
  | exc c fs =>
    obtain ⟨e, st', h1, h2⟩ := h
    exact ⟨e, st', by unfold dSeq dRet; rw [h1]; rfl, h2⟩
  | ok g =>
    obtain ⟨⟨d, st'⟩, h1, n, h2, h3⟩ := h
    have h2 : d = .cell n := h2
    subst h2
    exact ⟨(.rt (.cell n), η, st'), by unfold dSeq dRet; rw [h1]; rfl, hq g st' n h3⟩
abbrev lsT {α : Type} [Em α] (xs : List α) : Tr := .c (.lst (List.map em xs))
theorem ls_dep {α : Type} [Em α] (xs : List α) : Dep 2 (lsT xs) := rfl
def n_Gate_letters_of (g : Gt) (key : Str) : Rs (List LtG) := .ok ((kget key g.lets).getD [])
theorem sp_Gate_letters_of_n (g : Gt) (key : Str) : SpRC (lsT (α := LtG)) (gtT g) (n_Gate_letters_of g key) F_Gate_letters_of_n [em key] := by
  refine sprc_of (gt_dep g) ls_dep rfl [some (.cell 0), some (fe key)] rfl fun mm => ?_
  unfold n_Gate_letters_of
  delta b_Gate_letters_of
  refine ws_last ?_
  refine ws_retC (rt := lsT (α := LtG)) (L' := fun _ => gL mm g) ?_ fun xs st n o => qrc o
  exact w_ap (w_cons (we (gv_get rfl (by exact ev_var rfl)) (w_nil (w_listO pk_fz))))
def n_Gate_count_of (g : Gt) (key : Str) : Rs Int := .ok (lenI ((kget key g.lets).getD []))
theorem sp_Gate_count_of (g : Gt) (key : Str) : SpR (gtT g) (n_Gate_count_of g key) F_Gate_count_of [em key] := by
  refine spr_of (gt_dep g) rfl [some (.cell 0), some (fe key)] rfl fun mm => ?_
  unfold n_Gate_count_of
  delta b_Gate_count_of
  refine ws_last ?_
  exact ws_ret0 (ev_ap (ev_cons (gv_get rfl (by exact ev_var rfl)) ev_nil) (ev_len pk_fz)) fun _ o => qfr o rfl
theorem fld_own {α : Type} [Em α] {mm : Nat} {g : Gt} {η : Et} {st : Sr} {f : Str} {c0 : Ct} (h : η[0]? = some (some (.cell 0))) (hl : (gtF g).lookup f = some (.c c0)) (o : Own (gL mm g) st) : ∃ m, dFld f ["Gate"] (dVar 0) η st = .ok (.cell m, st) ∧ st[m]? = some c0 := by
  obtain ⟨ds, m, hn, hd, hm, _⟩ := Own.field (kp := 1) o rfl hl
  exact ⟨m, fld_cell (e_var h) hn rfl hd, hm⟩
theorem strsP_em9 : ∀ xs : List Str, M.strsP (List.map em xs) = some xs
  | [] => rfl
  | x :: xs => by
    show (M.strsP (List.map em xs)).map (x :: ·) = _
    rw [strsP_em9 xs]; rfl
def n_Gate_known (g : Gt) : Rs (List Str) := .ok (srtS (g.lets.map (·.a)))
theorem sp_Gate_known_n (g : Gt) : SpRC (lsT (α := Str)) (gtT g) (n_Gate_known g) F_Gate_known_n [] := by
  refine sprc_of (gt_dep g) ls_dep rfl [some (.cell 0)] rfl fun mm => ?_
  unfold n_Gate_known
  delta b_Gate_known
  refine ws_last ?_
  refine ws_retC (rt := lsT (α := Str)) (L' := fun _ => gL mm g) ?_ fun xs st n o => qrc o
  intro st o
  obtain ⟨m, e1, hm⟩ := fld_own (α := Int) (g := g) (η := [some (.cell 0)]) rfl (lk_lets g) o
  have e2 : dAp listKP (dCons (dFld "_letters" ["Gate"] (dVar 0)) dNil) [some (.cell 0)] st = .ok (.cell st.length, st ++ [.lst (List.map em (g.lets.map (·.a)))]) := by
    refine e_ap (e_cons e1 e_nil) ?_
    have ep : peek st (.cell m) = some (.dct (kvE g.lets)) := peek_dct hm
    unfold listKP
    dsimp only
    rw [ep]
    dsimp only
    rw [keysD_kv, List.map_map]
    rfl
  have o1 := o.new (.lst (List.map em (g.lets.map (·.a))))
  have hat : (st ++ [Ct.lst (List.map em (g.lets.map (·.a)))])[st.length]? = some (.lst (List.map em (g.lets.map (·.a)))) := by simp
  have e3 : dAp sortSC (dCons (dAp listKP (dCons (dFld "_letters" ["Gate"] (dVar 0)) dNil)) dNil) [some (.cell 0)] st = .ok (.cell (st ++ [Ct.lst (List.map em (g.lets.map (·.a)))]).length, st ++ [Ct.lst (List.map em (g.lets.map (·.a)))] ++ [.lst (List.map em (srtS (g.lets.map (·.a))))]) := by
    refine e_ap (e_cons e2 e_nil) ?_
    have ep : peek (st ++ [Ct.lst (List.map em (g.lets.map (·.a)))]) (.cell st.length) = some (.lst (List.map em (g.lets.map (·.a)))) := by
      unfold peek
      dsimp only
      rw [hat]
    unfold sortSC
    dsimp only
    rw [ep]
    show (match M.strsP (List.map em (g.lets.map (·.a))) with | some ss => _ | none => _) = _
    rw [strsP_em9]
    rfl
  have o2 := o1.new (.lst (List.map em (srtS (g.lets.map (·.a)))))
  exact ⟨_, e3, _, rfl, Own.pickB [0, 1, 3] (by decide) o2 (fun i hi => by simp at hi ⊢; omega)⟩
def n_Gate_late (g : Gt) : Rs (List EvG) := .ok g.late
theorem sp_Gate_late_n (g : Gt) : SpRC (lsT (α := EvG)) (gtT g) (n_Gate_late g) F_Gate_late_n [] := by
  refine sprc_of (gt_dep g) ls_dep rfl [some (.cell 0)] rfl fun mm => ?_
  unfold n_Gate_late
  delta b_Gate_late
  refine ws_last ?_
  refine ws_retC (rt := lsT (α := EvG)) (L' := fun _ => gL mm g) ?_ fun xs st n o => qrc o
  intro st o
  obtain ⟨m, e1, hm⟩ := fld_own (α := Int) (g := g) (η := [some (.cell 0)]) rfl (lk_late g) o
  have e2 : dAp listO (dCons (dFld "_late" ["Gate"] (dVar 0)) dNil) [some (.cell 0)] st = .ok (.cell st.length, st ++ [.lst (List.map em g.late)]) := by
    refine e_ap (e_cons e1 e_nil) ?_
    have ep : peek st (.cell m) = some (.lst (List.map em g.late)) := by
      unfold peek
      dsimp only
      rw [hm]
    unfold listO
    dsimp only
    rw [ep]
    rfl
  exact ⟨_, e2, _, rfl, o.new _⟩
abbrev MkG := T2 Int (Option Int)
def n_Gate_mark_of (g : Gt) (key : Str) : Rs (Option MkG) :=
  (Rs.ok g.fin).bind fun b => if b = true then (n_Gate_count_of g key).bind fun n => Rs.ok (some ⟨n, none⟩)
  else (Rs.ok g.fl.isNone).bind fun b => if b = true then Rs.ok none else Rs.ok (some ⟨(kget key g.cnt).getD 0, g.fl⟩)
theorem sp_Gate_mark_of (g : Gt) (key : Str) : SpR (gtT g) (n_Gate_mark_of g key) F_Gate_mark_of [em key] := by
  refine spr_of (gt_dep g) rfl [some (.cell 0), some (fe key)] rfl fun mm => ?_
  unfold n_Gate_mark_of
  delta b_Gate_mark_of
  refine ws_last ?_
  refine ws_assoc ?_
  refine ws_if (L' := fun _ => gL mm g) (w_ev (rep := id) (ev_tru (gv_fin rfl) ev_truB)) ?_ ?_
  · refine ws_retK (Q := QFR (gtT g) mm) (kr := fun n => some (⟨n, none⟩ : MkG)) (rep := fun n : Int => .fz (.tup [em n, .non])) (L' := fun _ => gL mm g) ?_ fun n st o => qfr o rfl
    exact w_ap (w_cons (wv (g_methR (kp := 1) (as := [em key]) rfl (ev_var rfl) (by kernel_rfl) rfl (ev_cons (ev_var rfl) ev_nil) (sp_Gate_count_of g key) (fun _ o => xo o)) fun n => w_cons (we ev_k (w_nil (w_ev (rep := fun n : Int => .fz (.tup [em n, .non])) (ev_tup [em n, .non]))))))
  refine ws_skip ?_
  refine ws_assoc ?_
  refine ws_if (L' := fun _ => gL mm g) (w_ev (rep := id) (ev_tru (ev_bin (gv_floor rfl) ev_k ev_isN) ev_truB)) ?_ ?_
  · exact ws_ret0 ev_k fun _ o => qfr o rfl
  refine ws_skip ?_
  exact ws_ret0 (ev_ap (ev_cons (gv_getc rfl (by exact ev_var rfl)) (ev_cons (gv_floor rfl) ev_nil)) (ev_tup [em ((kget key g.cnt).getD 0), em g.fl])) fun _ o => qfr o rfl
def g0 : Gt := ⟨none, false, [], [], []⟩
theorem sp_Gate_init : SpO (fun _ : Unit => gtT g0) (.obj "Gate" []) (.ok ((), ())) F_Gate_init [] := by
  refine spo_of (fun x hx => by cases hx) (fun _ => gt_dep g0) rfl [some (.cell 0)] rfl fun mm => ?_
  delta b_Gate_init
  refine ws_last ?_
  refine ws_assoc ?_
  refine ws_setAn (kp := 1) (n := 0) (c := "Gate") (fs := []) rfl ev_k (ev_var rfl) rfl rfl (by decide) ?_
  refine ws_assoc ?_
  refine ws_setAn (kp := 1) (n := 0) (c := "Gate") (fs := [("_floor", .v .non)]) rfl ev_k (ev_var rfl) (by kernel_rfl) rfl (by decide) ?_
  refine ws_assoc ?_
  refine ws_setAc (kp := 1) (n := 0) (c := "Gate") (ct := .dct []) (fs := [("_floor", .v .non), ("_finished", .v (.bl false))]) rfl (fun st o => rfl) (fun st => e_var rfl) (by kernel_rfl) rfl (by decide) ?_
  refine ws_assoc ?_
  refine ws_setAc (kp := 1) (n := 0) (c := "Gate") (ct := .dct []) (fs := [("_floor", .v .non), ("_finished", .v (.bl false)), ("_letters", .c (.dct []))]) rfl (fun st o => rfl) (fun st => e_var rfl) (by kernel_rfl) rfl (by decide) ?_
  refine ws_setAc (kp := 1) (n := 0) (c := "Gate") (ct := .lst []) (fs := [("_floor", .v .non), ("_finished", .v (.bl false)), ("_letters", .c (.dct [])), ("_counts", .c (.dct []))]) rfl (fun st o => rfl) (fun st => e_var rfl) (by kernel_rfl) rfl (by decide) ?_
  exact ws_end fun _ o => qfon (tr := fun _ : Unit => gtT g0) (s := ()) o
/-- Gate() -/
theorem w_newGate {L : Ow} {X : XP} {η : Et} : Wk L (.ok g0) (dNewC "Gate" F_Gate_init dNil η) (PT gtT fun _ => L) X := fun st o => by
  have h := w_newC0 (L := L) (X := X) (η := η) (c := "Gate") (F := F_Gate_init) (g := dNil) (ds := []) (m := .ok ((), ())) (fsOf := fun _ => gtF g0) ev_nil (fun n => by
    have hn : (L ++ [(n, Tr.obj "Gate" [])])[L.length]? = some (n, Tr.obj "Gate" []) := by rw [List.getElem?_append_right (Nat.le_refl _), Nat.sub_self]; rfl
    have h1 := w_callO (X := fun _ _ => True) (η := η) (as := []) (L := L ++ [(n, Tr.obj "Gate" [])]) L.length sp_Gate_init rfl hn (fun x hx => by cases hx) (fun _ => gt_dep g0) (fun _ _ => trivial)
    intro st o
    obtain ⟨a, q1, q2, q3⟩ := h1 st o
    refine ⟨a, q1, q2, ?_⟩
    have q3 : Own ((L ++ [(n, Tr.obj "Gate" [])]).set L.length (n, gtT g0)) a.2 := q3
    rw [List.set_append_right _ _ (Nat.le_refl _), Nat.sub_self] at q3
    exact q3) st o
  obtain ⟨a, q1, n, q2, q3⟩ := h
  exact ⟨a, q1, n, q2, q3⟩
def n_Gate_twin (g : Gt) : Rs Gt := if ((g.lets.map (·.a)).Nodup ∧ g.lets.length < 16777216) ∧ ((g.cnt.map (·.a)).Nodup ∧ g.cnt.length < 16777216) then .ok g else .stuck
theorem map_eta {α β : Type} (l : List (T2 α β)) : (l.map fun x => (⟨x.a, x.b⟩ : T2 α β)) = l := List.map_id l
theorem sp_Gate_twin_n (g : Gt) : SpRC gtT (gtT g) (n_Gate_twin g) F_Gate_twin_n [] := by
  refine sprc_of (gt_dep g) gt_dep rfl [some (.cell 0), none, none] rfl fun mm => ?_
  unfold n_Gate_twin
  by_cases c : ((g.lets.map (·.a)).Nodup ∧ g.lets.length < 16777216) ∧ ((g.cnt.map (·.a)).Nodup ∧ g.cnt.length < 16777216)
  · rw [if_pos c]
    delta b_Gate_twin
    refine ws_last ?_
    refine ws_assoc ?_
    show Wk _ ((Rs.ok g0).bind fun _ => Rs.ok g) _ _ _
    refine ws_setO (c := "Gate") (fsOf := fun _ : Gt => gtF g0) (L' := fun _ => gL mm g) (fun st o => w_newGate (X := XO mm (gtT g)) st o) fun _ n => ?_
    refine ws_assoc ?_
    refine ws_setAv (kp := 2) (n := n) (c := "Gate") (fs := gtF g0) (p := em g.fl) rfl (ev_attr (kp := 1) (n := 0) (fs := gtF g) rfl (ev_var rfl) (lk_floor g) rfl) (ev_var rfl) (lk_floor g0) rfl (gt_len g0) ?_
    rw [put_floor]
    refine ws_assoc ?_
    refine ws_setAv (kp := 2) (n := n) (c := "Gate") (fs := gtF { g0 with fl := g.fl }) (p := .bl g.fin) rfl (ev_attr (kp := 1) (n := 0) (fs := gtF g) rfl (ev_var rfl) (lk_fin g) rfl) (ev_var rfl) (lk_fin _) rfl (gt_len _) ?_
    rw [put_fin]
    refine ws_assoc ?_
    refine ws_setAr (kp := 2) (n := n) (c := "Gate") (fs := gtF { g0 with fl := g.fl, fin := g.fin }) (c0 := .dct []) (ct := .dct (kvE (g.lets.map fun x => (⟨x.a, x.b⟩ : T2 Str (List LtG))))) rfl rfl (fun st o => ?_) (fun st => e_var rfl) (lk_lets _) rfl (gt_len _) ?_
    · refine dck_ev (kp := 1) o rfl (lk_lets g) rfl rfl (by show 2 < 3; decide) c.1.1 c.1.2 fun st1 m ds hn hd hm x hx => ?_
      exact e_ap (e_cons (e_bin (fld_at rfl hn rfl hd) (e_var rfl) (ixk_at hm (kget_in c.1.1 hx))) e_nil) ((ev_listL (L := []) (xs := x.b) pk_fz) st1 (Own.nil _))
    rw [map_eta, put_lets]
    refine ws_assoc ?_
    refine ws_setAr (kp := 2) (n := n) (c := "Gate") (fs := gtF { g0 with fl := g.fl, fin := g.fin, lets := g.lets }) (c0 := .dct []) (ct := .dct (kvE (g.cnt.map fun x => (⟨x.a, x.b⟩ : T2 Str Int)))) rfl rfl (fun st o => ?_) (fun st => e_var rfl) (lk_cnt _) rfl (gt_len _) ?_
    · refine dck_ev (kp := 1) o rfl (lk_cnt g) rfl rfl (by show 2 < 3; decide) c.2.1 c.2.2 fun st1 m ds hn hd hm x hx => ?_
      exact e_bin (fld_at rfl hn rfl hd) (e_var rfl) (ixk_at hm (kget_in c.2.1 hx))
    rw [map_eta, put_cnt]
    refine ws_assoc ?_
    refine ws_setAr (kp := 2) (n := n) (c := "Gate") (fs := gtF { g0 with fl := g.fl, fin := g.fin, lets := g.lets, cnt := g.cnt }) (c0 := .lst []) (ct := .lst (List.map em g.late)) rfl rfl (fun st o => ?_) (fun st => e_var rfl) (lk_late _) rfl (gt_len _) ?_
    · obtain ⟨ds, m, hn, hd, hm, _⟩ := Own.field (kp := 1) (n := 0) (fs := gtF g) o rfl (lk_late g)
      refine e_ap (e_cons (fld_cell (e_var rfl) hn rfl hd) e_nil) ?_
      have ep : peek st (.cell m) = some (.lst (List.map em g.late)) := by
        unfold peek
        dsimp only
        rw [hm]
      unfold listO
      dsimp only
      rw [ep]
      rfl
    rw [put_late]
    exact ws_ret0 (ev_var rfl) fun _ o => qrc o
  · rw [if_neg c]; exact fun st o => trivial
end G
end
section
set_option Elab.async false
set_option linter.all false
set_option maxRecDepth 100000
set_option maxHeartbeats 0
namespace G
open PySem L2 M N
noncomputable def n_l_span (stream : List Int) : Rs (Int × List Int) :=
(n_l_draw stream (12 : Int)).bind fun pick =>
(if (decide (pick.1 < (10 : Int))) = true then
(modM pick.1 (5 : Int)).bind fun g => Rs.ok (g, pick.2)
else
(if (decide (pick.1 = (10 : Int))) = true then
(n_l_draw pick.2 (100 : Int)).bind fun g => Rs.ok (g.1, g.2)
else
((n_l_draw pick.2 (3 : Int)).bind fun g_ => Rs.ok (((100000000000000000000 : Int) + g_.1), g_.2)).bind fun g => Rs.ok (g.1, g.2)))
noncomputable def n_l_wide_1  (s : Int × (List Int)) (x : Int) : Rs (Int × (List Int)) :=
((mulM s.1 (100 : Int)).bind fun g_ => (n_l_draw s.2 (100 : Int)).bind fun g_2 => Rs.ok ((g_ + g_2.1), g_2.2)).bind fun size =>
Rs.ok (size.1, size.2)
noncomputable def n_l_wide (stream : List Int) : Rs (Int × List Int) :=
(Rs.ok ((0 : Int) : Int)).bind fun size =>
((rng1 (11 : Int)).bind fun xs => foldRs (n_l_wide_1) xs (size, stream)).bind fun (size_q : Int × (List Int)) =>
(((n_l_draw size_q.2 (2 : Int)).bind fun g_ => Rs.ok ((decide (g_.1 = (1 : Int))), g_.2)).bind fun g_2 => Rs.ok (g_2.1, g_2.2)).bind fun b_ => (if b_.1 = true then
Rs.ok (((-size_q.1) : Int), b_.2)
else
Rs.ok ((size_q.1 : Int), b_.2))
noncomputable def n_l_value (stream : List Int) (style : Int) : Rs (Int × List Int) :=
(if (decide (style < (2 : Int))) = true then
(n_l_draw stream (3 : Int)).bind fun g => Rs.ok (g.1, g.2)
else
(if (decide (style = (2 : Int))) = true then
(n_l_draw stream (6 : Int)).bind fun g => Rs.ok (g.1, g.2)
else
(if (decide (style = (3 : Int))) = true then
((n_l_draw stream (100 : Int)).bind fun g_ => (n_l_draw g_.2 (100 : Int)).bind fun g_2 => Rs.ok ((g_.1 - g_2.1), g_2.2)).bind fun g => Rs.ok (g.1, g.2)
else
(if (decide (style = (4 : Int))) = true then
(((n_l_draw stream (3 : Int)).bind fun g_5 => (n_l_draw g_5.2 (2 : Int)).bind fun g_6 => Rs.ok ((g_5.1 - g_6.1), g_6.2)).bind fun g_7 => (mulM g_7.1 (100000000000000000000 : Int)).bind fun v => Rs.ok (v, g_7.2)).bind fun g => Rs.ok (g.1, g.2)
else
(n_l_wide stream).bind fun g => Rs.ok (g.1, g.2)))))
noncomputable def n_l_step (stream : List Int) (span : Int) : Rs (Int × List Int) :=
(n_l_draw stream (8 : Int)).bind fun pick =>
(if (decide (pick.1 < (2 : Int))) = true then
Rs.ok (((0 : Int) : Int), pick.2)
else
(if (decide (pick.1 = (2 : Int))) = true then
Rs.ok ((span : Int), pick.2)
else
(if (decide (pick.1 = (3 : Int))) = true then
Rs.ok (((span + (1 : Int)) : Int), pick.2)
else
(if (decide (pick.1 = (4 : Int))) = true then
((n_l_draw pick.2 (100 : Int)).bind fun g_ => Rs.ok (((span + (1 : Int)) + g_.1), g_.2)).bind fun g => Rs.ok (g.1, g.2)
else
(if (decide (pick.1 = (5 : Int))) = true then
(fdivM span (2 : Int)).bind fun g => Rs.ok (g, pick.2)
else
(n_l_draw pick.2 (4 : Int)).bind fun g => Rs.ok (g.1, g.2))))))
noncomputable def n_l_deeds_1 (names : Tu Str) (span : Int) (style : Int) (s : Int × (List Int) × (List P) × (List (Tu Int))) (x : Int) : Rs (Int × (List Int) × (List P) × (List (Tu Int))) :=
(n_l_draw s.2.1 (12 : Int)).bind fun pick =>
((n_l_draw pick.2 (lenI names.l)).bind fun g_ => (idx names.l g_.1).bind fun v => Rs.ok (v, g_.2)).bind fun name =>
(if (decide (pick.1 < (7 : Int))) = true then
((n_l_step name.2 span).bind fun g_2 => Rs.ok ((s.1 + g_2.1), g_2.2)).bind fun now =>
((n_l_value now.2 style).bind fun g_3 => Rs.ok ((⟨("event" : Str), name.1, now.1, g_3.1⟩ : T4 Str Str Int Int), g_3.2)).bind fun g_4 => (app s.2.2.1 (em (g_4.1 : T4 Str Str Int Int))).bind fun deeds =>
Rs.ok (now.1, g_4.2, deeds, s.2.2.2)
else
(if (decide (pick.1 = (7 : Int))) = true then
(((n_l_draw name.2 (5 : Int)).bind fun g_5 => Rs.ok ((s.1 - g_5.1), g_5.2)).bind fun g_6 => (n_l_value g_6.2 style).bind fun g_7 => Rs.ok ((⟨("event" : Str), name.1, g_6.1, g_7.1⟩ : T4 Str Str Int Int), g_7.2)).bind fun g_8 => (app s.2.2.1 (em (g_8.1 : T4 Str Str Int Int))).bind fun deeds2 =>
Rs.ok (s.1, g_8.2, deeds2, s.2.2.2)
else
(if (decide (pick.1 = (8 : Int))) = true then
(((n_l_draw name.2 (3 : Int)).bind fun g_9 => Rs.ok (((s.1 - (1 : Int)) + g_9.1), g_9.2)).bind fun g_10 => Rs.ok ((⟨("raise" : Str), g_10.1⟩ : T2 Str Int), g_10.2)).bind fun g_11 => (app s.2.2.1 (em (g_11.1 : T2 Str Int))).bind fun deeds3 =>
Rs.ok (s.1, g_11.2, deeds3, s.2.2.2)
else
(if (decide (pick.1 = (9 : Int))) = true then
(((n_l_draw name.2 (2 : Int)).bind fun g_12 => Rs.ok (((s.1 + span) + g_12.1), g_12.2)).bind fun g_13 => Rs.ok ((⟨("raise" : Str), g_13.1⟩ : T2 Str Int), g_13.2)).bind fun g_14 => (app s.2.2.1 (em (g_14.1 : T2 Str Int))).bind fun deeds4 =>
Rs.ok (s.1, g_14.2, deeds4, s.2.2.2)
else
(if ((decide (pick.1 = (10 : Int))) && (!s.2.2.2.isEmpty)) = true then
((popN s.2.2.2 (0 : Int)).bind fun g_15 => Rs.ok ((⟨("yard" : Str), g_15.1⟩ : T2 Str (Tu Int)), g_15.2)).bind fun g_16 => (app s.2.2.1 (em (g_16.1 : T2 Str (Tu Int)))).bind fun deeds5 =>
Rs.ok (s.1, name.2, deeds5, g_16.2)
else
(((n_l_draw name.2 (5 : Int)).bind fun g_17 => Rs.ok ((s.1 - g_17.1), g_17.2)).bind fun g_18 => Rs.ok ((⟨("raise" : Str), g_18.1⟩ : T2 Str Int), g_18.2)).bind fun g_19 => (app s.2.2.1 (em (g_19.1 : T2 Str Int))).bind fun deeds6 =>
Rs.ok (s.1, g_19.2, deeds6, s.2.2.2))))))
noncomputable def n_l_deeds_2  (s : (List P)) (x : Tu Int) : Rs (List P) :=
(Rs.ok (em ((⟨("yard" : Str), x⟩ : T2 Str (Tu Int)) : T2 Str (Tu Int)))).bind fun g_ => (app s g_).bind fun deeds =>
Rs.ok deeds
noncomputable def n_l_deeds (stream : List Int) (count : Int) (names : Tu Str) (spots : Tu (Tu Int)) (span : Int) (style : Int) : Rs (List P × List Int) :=
(Rs.ok ([] : List P)).bind fun deeds =>
(Rs.ok spots.l).bind fun left =>
(n_l_value stream style).bind fun now =>
((rng1 count).bind fun xs => foldRs (n_l_deeds_1 names span style) xs (now.1, now.2, deeds, left)).bind fun (now_q_q_q : Int × (List Int) × (List P) × (List (Tu Int))) =>
(foldRs (n_l_deeds_2) now_q_q_q.2.2.2 now_q_q_q.2.2.1).bind fun (q_ : (List P)) =>
Rs.ok (q_, now_q_q_q.2.1)
noncomputable def n_l_world (stream : List Int) : Rs (T2 (Tu Str) (List P) × List Int) :=
(Rs.ok ((⟨[(⟨[("a" : Str)]⟩ : Tu Str), (⟨[("a" : Str), ("b" : Str)]⟩ : Tu Str), (⟨[("ab" : Str), ("a" : Str)]⟩ : Tu Str), (⟨[("k" : Str), ("kk" : Str), ("kkkkkkkk" : Str)]⟩ : Tu Str), (⟨[("zz" : Str), ("a" : Str), ("zza" : Str)]⟩ : Tu Str)]⟩ : Tu (Tu Str)) : Tu (Tu Str))).bind fun menu =>
((n_l_draw stream (5 : Int)).bind fun g_ => (idx menu.l g_.1).bind fun v => Rs.ok (v, g_.2)).bind fun names =>
((n_l_draw names.2 (3 : Int)).bind fun g_2 => (idx (⟨[(⟨[]⟩ : Tu (Tu Int)), (⟨[(⟨[(0 : Int), (2 : Int)]⟩ : Tu Int)]⟩ : Tu (Tu Int)), (⟨[(⟨[(5 : Int)]⟩ : Tu Int), (⟨[(0 : Int), (1 : Int), (2 : Int), (3 : Int), (4 : Int), (5 : Int)]⟩ : Tu Int), (⟨[(1 : Int)]⟩ : Tu Int)]⟩ : Tu (Tu Int))]⟩ : Tu (Tu (Tu Int))).l g_2.1).bind fun v => Rs.ok (v, g_2.2)).bind fun spots =>
(n_l_span spots.2).bind fun span =>
(n_l_draw span.2 (6 : Int)).bind fun style =>
(((n_l_draw style.2 (15 : Int)).bind fun g_3 => n_l_deeds g_3.2 g_3.1 names.1 spots.1 span.1 style.1).bind fun g_4 => Rs.ok ((⟨names.1, g_4.1⟩ : T2 (Tu Str) (List P)), g_4.2)).bind fun g => Rs.ok (g.1, g.2)
theorem sp_l_span (stream : List Int) : Sp1 (fun s : List Int => Ct.lst (List.map em s)) (n_l_span stream) F_l_span [] [] (.lst (List.map em stream)) := by
  refine sp1_of (fun _ => rfl) rfl [some (.cell 0), none] rfl ?_
  unfold n_l_span
  delta b_l_span
  refine ws_last ?_
  refine ws_assoc ?_
  refine ws_set (rep := fun (g : Int × List Int) => fe g.1) (L' := fun (g : Int × List Int) => [(0, .lst (List.map em (g.2 : List Int)))]) ?_ fun pick => ?_
  · exact w_call (w_cons (we (ev_var rfl) (w_cons (we (ev_k) (w_nil (w_call1 0 (sp_l_draw stream (12 : Int)) rfl rfl rfl (fun _ => rfl)))))))
  refine ws_assoc ?_
  refine ws_ifP (ev_tru (ev_bin (ev_var rfl) (ev_k) (ev_lt)) (ev_truB)) (fun _ => ?_) (fun _ => ?_)
  · refine ws_retK (kr := fun (g : Int) => (g, pick.2)) (rep := fun (g : Int) => fe g) (L' := fun (g : Int) => [(0, .lst (List.map em (pick.2 : List Int)))]) ?_ fun _ _ o => qf1 0 rfl o
    exact w_bin (we (ev_ap (ev_cons (ev_var rfl) (ev_nil)) (ev_int1)) (we (ev_k) (w_mod)))
  · refine ws_skip ?_
    refine ws_assoc ?_
    refine ws_ifP (ev_tru (ev_bin (ev_var rfl) (ev_k) (ev_eq (α := Int) pk_fz pk_fz)) (ev_truB)) (fun _ => ?_) (fun _ => ?_)
    · refine ws_retK (kr := fun (g : Int × List Int) => (g.1, g.2)) (rep := fun (g : Int × List Int) => fe g.1) (L' := fun (g : Int × List Int) => [(0, .lst (List.map em (g.2 : List Int)))]) ?_ fun _ _ o => qf1 0 rfl o
      exact w_call (w_cons (we (ev_var rfl) (w_cons (we (ev_k) (w_nil (w_call1 0 (sp_l_draw pick.2 (100 : Int)) rfl rfl rfl (fun _ => rfl)))))))
    · refine ws_skip ?_
      refine ws_retK (kr := fun (g : Int × List Int) => (g.1, g.2)) (rep := fun (g : Int × List Int) => fe g.1) (L' := fun (g : Int × List Int) => [(0, .lst (List.map em (g.2 : List Int)))]) ?_ fun _ _ o => qf1 0 rfl o
      exact w_bin (we (ev_k) (wv (w_call (w_cons (we (ev_var rfl) (w_cons (we (ev_k) (w_nil (w_call1 0 (sp_l_draw pick.2 (3 : Int)) rfl rfl rfl (fun _ => rfl)))))))) fun g_ => (w_ok (rep := fun (g : Int × List Int) => fe g.1) (L' := fun (g : Int × List Int) => [(0, .lst (List.map em (g.2 : List Int)))]) (ev_addI) (fun _ o => o))))
theorem lb_l_wide_1   : ∀ (s : Int × (List Int)) (j : Option D) (x : Int), Wk ([(0, .lst (List.map em (s.2 : List Int)))]) (n_l_wide_1 s x) (b_l_wide_1 ([some (.cell 0), some (fe (s.1 : Int)), some (fe (x : Int))])) (QB (fun (s : Int × (List Int)) (j : Option D) => [some (.cell 0), some (fe (s.1 : Int)), j]) (fun s j => [(0, .lst (List.map em (s.2 : List Int)))])) X0 := fun s j x => by
  unfold n_l_wide_1
  delta b_l_wide_1
  refine ws_last ?_
  refine ws_set (rep := fun (g : Int × List Int) => fe g.1) (L' := fun (g : Int × List Int) => [(0, .lst (List.map em (g.2 : List Int)))]) ?_ fun size => ?_
  · exact w_bin (wv (w_bin (we (ev_var rfl) (we (ev_k) (w_mul)))) fun g_ => (wv (w_call (w_cons (we (ev_var rfl) (w_cons (we (ev_k) (w_nil (w_call1 0 (sp_l_draw s.2 (100 : Int)) rfl rfl rfl (fun _ => rfl)))))))) fun g_2 => (w_ok (rep := fun (g : Int × List Int) => fe g.1) (L' := fun (g : Int × List Int) => [(0, .lst (List.map em (g.2 : List Int)))]) (ev_addI) (fun _ o => o))))
  exact ws_end fun _ o => ⟨.inl rfl, (some (fe (x : Int))), rfl, o⟩
theorem sp_l_wide (stream : List Int) : Sp1 (fun s : List Int => Ct.lst (List.map em s)) (n_l_wide stream) F_l_wide [] [] (.lst (List.map em stream)) := by
  refine sp1_of (fun _ => rfl) rfl [some (.cell 0), none, none] rfl ?_
  unfold n_l_wide
  delta b_l_wide
  refine ws_last ?_
  refine ws_assoc ?_
  refine ws_set (w_ev (rep := fe (α := Int)) (ev_k)) fun size => ?_
  refine ws_assoc ?_
  refine ws_cut (J := Option D) (E := fun (s9 : Int × (List Int)) (j9 : Option D) => [some (.cell 0), some (fe (s9.1 : Int)), j9]) (Lf := fun s9 j9 => [(0, .lst (List.map em (s9.2 : List Int)))]) ?_ fun size_q j_ => ?_
  · refine w_forR1P (j := (11 : Int)) (ev_k) (fun xs => ?_)
    exact loop_fold (E := fun (s9 : Int × (List Int)) (j9 : Option D) => [some (.cell 0), some (fe (s9.1 : Int)), j9]) (Lf := fun s9 j9 => [(0, .lst (List.map em (s9.2 : List Int)))]) (h := em) (fun _ _ _ _ => rfl) (lb_l_wide_1 ) _ (size, stream) none
  refine ws_assoc ?_
  refine ws_ifG (bv := fun (g : Bool × List Int) => g.1) (L' := fun (g : Bool × List Int) => [(0, .lst (List.map em (g.2 : List Int)))]) ?_ (fun b_ => ?_) (fun b_ => ?_)
  · exact w_tru (wv (w_bin (wv (w_call (w_cons (we (ev_var rfl) (w_cons (we (ev_k) (w_nil (w_call1 0 (sp_l_draw size_q.2 (2 : Int)) rfl rfl rfl (fun _ => rfl)))))))) fun g_ => (we (ev_k) (w_ok (rep := fun (g : Bool × List Int) => fe g.1) (L' := fun (g : Bool × List Int) => [(0, .lst (List.map em (g.2 : List Int)))]) (ev_eq (α := Int) pk_fz pk_fz) (fun _ o => o))))) fun g_2 => w_ok (rep := fun (g : Bool × List Int) => g.1) (L' := fun (g : Bool × List Int) => [(0, .lst (List.map em (g.2 : List Int)))]) (ev_truB) (fun _ o => o))
  · exact ws_ret0 (ev_un (ev_var rfl) (ev_negI)) fun _ o => qf1 0 rfl o
  · refine ws_skip ?_
    exact ws_ret0 (ev_var rfl) fun _ o => qf1 0 rfl o
theorem sp_l_value (stream : List Int) (style : Int) : Sp1 (fun s : List Int => Ct.lst (List.map em s)) (n_l_value stream style) F_l_value [] [em (style : Int)] (.lst (List.map em stream)) := by
  refine sp1_of (fun _ => rfl) rfl [some (.cell 0), some (fe (style : Int))] rfl ?_
  unfold n_l_value
  delta b_l_value
  refine ws_last ?_
  refine ws_assoc ?_
  refine ws_ifP (ev_tru (ev_bin (ev_var rfl) (ev_k) (ev_lt)) (ev_truB)) (fun _ => ?_) (fun _ => ?_)
  · refine ws_retK (kr := fun (g : Int × List Int) => (g.1, g.2)) (rep := fun (g : Int × List Int) => fe g.1) (L' := fun (g : Int × List Int) => [(0, .lst (List.map em (g.2 : List Int)))]) ?_ fun _ _ o => qf1 0 rfl o
    exact w_call (w_cons (we (ev_var rfl) (w_cons (we (ev_k) (w_nil (w_call1 0 (sp_l_draw stream (3 : Int)) rfl rfl rfl (fun _ => rfl)))))))
  · refine ws_skip ?_
    refine ws_assoc ?_
    refine ws_ifP (ev_tru (ev_bin (ev_var rfl) (ev_k) (ev_eq (α := Int) pk_fz pk_fz)) (ev_truB)) (fun _ => ?_) (fun _ => ?_)
    · refine ws_retK (kr := fun (g : Int × List Int) => (g.1, g.2)) (rep := fun (g : Int × List Int) => fe g.1) (L' := fun (g : Int × List Int) => [(0, .lst (List.map em (g.2 : List Int)))]) ?_ fun _ _ o => qf1 0 rfl o
      exact w_call (w_cons (we (ev_var rfl) (w_cons (we (ev_k) (w_nil (w_call1 0 (sp_l_draw stream (6 : Int)) rfl rfl rfl (fun _ => rfl)))))))
    · refine ws_skip ?_
      refine ws_assoc ?_
      refine ws_ifP (ev_tru (ev_bin (ev_var rfl) (ev_k) (ev_eq (α := Int) pk_fz pk_fz)) (ev_truB)) (fun _ => ?_) (fun _ => ?_)
      · refine ws_retK (kr := fun (g : Int × List Int) => (g.1, g.2)) (rep := fun (g : Int × List Int) => fe g.1) (L' := fun (g : Int × List Int) => [(0, .lst (List.map em (g.2 : List Int)))]) ?_ fun _ _ o => qf1 0 rfl o
        exact w_bin (wv (w_call (w_cons (we (ev_var rfl) (w_cons (we (ev_k) (w_nil (w_call1 0 (sp_l_draw stream (100 : Int)) rfl rfl rfl (fun _ => rfl)))))))) fun g_ => (wv (w_call (w_cons (we (ev_var rfl) (w_cons (we (ev_k) (w_nil (w_call1 0 (sp_l_draw g_.2 (100 : Int)) rfl rfl rfl (fun _ => rfl)))))))) fun g_2 => (w_ok (rep := fun (g : Int × List Int) => fe g.1) (L' := fun (g : Int × List Int) => [(0, .lst (List.map em (g.2 : List Int)))]) (ev_subI) (fun _ o => o))))
      · refine ws_skip ?_
        refine ws_assoc ?_
        refine ws_ifP (ev_tru (ev_bin (ev_var rfl) (ev_k) (ev_eq (α := Int) pk_fz pk_fz)) (ev_truB)) (fun _ => ?_) (fun _ => ?_)
        · refine ws_retK (kr := fun (g : Int × List Int) => (g.1, g.2)) (rep := fun (g : Int × List Int) => fe g.1) (L' := fun (g : Int × List Int) => [(0, .lst (List.map em (g.2 : List Int)))]) ?_ fun _ _ o => qf1 0 rfl o
          exact w_bin (wv (w_bin (wv (w_call (w_cons (we (ev_var rfl) (w_cons (we (ev_k) (w_nil (w_call1 0 (sp_l_draw stream (3 : Int)) rfl rfl rfl (fun _ => rfl)))))))) fun g_5 => (wv (w_call (w_cons (we (ev_var rfl) (w_cons (we (ev_k) (w_nil (w_call1 0 (sp_l_draw g_5.2 (2 : Int)) rfl rfl rfl (fun _ => rfl)))))))) fun g_6 => (w_ok (rep := fun (g : Int × List Int) => fe g.1) (L' := fun (g : Int × List Int) => [(0, .lst (List.map em (g.2 : List Int)))]) (ev_subI) (fun _ o => o))))) fun g_7 => (we (ev_k) (w_withS (L' := fun (z9 : List Int) => [(0, .lst (List.map em (z9 : List Int)))]) (w_mul) (fun _ o => o))))
        · refine ws_skip ?_
          refine ws_retK (kr := fun (g : Int × List Int) => (g.1, g.2)) (rep := fun (g : Int × List Int) => fe g.1) (L' := fun (g : Int × List Int) => [(0, .lst (List.map em (g.2 : List Int)))]) ?_ fun _ _ o => qf1 0 rfl o
          exact w_call (w_cons (we (ev_var rfl) (w_nil (w_call1 0 (sp_l_wide stream) rfl rfl rfl (fun _ => rfl)))))
theorem sp_l_step (stream : List Int) (span : Int) : Sp1 (fun s : List Int => Ct.lst (List.map em s)) (n_l_step stream span) F_l_step [] [em (span : Int)] (.lst (List.map em stream)) := by
  refine sp1_of (fun _ => rfl) rfl [some (.cell 0), some (fe (span : Int)), none] rfl ?_
  unfold n_l_step
  delta b_l_step
  refine ws_last ?_
  refine ws_assoc ?_
  refine ws_set (rep := fun (g : Int × List Int) => fe g.1) (L' := fun (g : Int × List Int) => [(0, .lst (List.map em (g.2 : List Int)))]) ?_ fun pick => ?_
  · exact w_call (w_cons (we (ev_var rfl) (w_cons (we (ev_k) (w_nil (w_call1 0 (sp_l_draw stream (8 : Int)) rfl rfl rfl (fun _ => rfl)))))))
  refine ws_assoc ?_
  refine ws_ifP (ev_tru (ev_bin (ev_var rfl) (ev_k) (ev_lt)) (ev_truB)) (fun _ => ?_) (fun _ => ?_)
  · exact ws_ret0 (ev_k) fun _ o => qf1 0 rfl o
  · refine ws_skip ?_
    refine ws_assoc ?_
    refine ws_ifP (ev_tru (ev_bin (ev_var rfl) (ev_k) (ev_eq (α := Int) pk_fz pk_fz)) (ev_truB)) (fun _ => ?_) (fun _ => ?_)
    · exact ws_ret0 (ev_var rfl) fun _ o => qf1 0 rfl o
    · refine ws_skip ?_
      refine ws_assoc ?_
      refine ws_ifP (ev_tru (ev_bin (ev_var rfl) (ev_k) (ev_eq (α := Int) pk_fz pk_fz)) (ev_truB)) (fun _ => ?_) (fun _ => ?_)
      · exact ws_ret0 (ev_bin (ev_var rfl) (ev_k) (ev_addI)) fun _ o => qf1 0 rfl o
      · refine ws_skip ?_
        refine ws_assoc ?_
        refine ws_ifP (ev_tru (ev_bin (ev_var rfl) (ev_k) (ev_eq (α := Int) pk_fz pk_fz)) (ev_truB)) (fun _ => ?_) (fun _ => ?_)
        · refine ws_retK (kr := fun (g : Int × List Int) => (g.1, g.2)) (rep := fun (g : Int × List Int) => fe g.1) (L' := fun (g : Int × List Int) => [(0, .lst (List.map em (g.2 : List Int)))]) ?_ fun _ _ o => qf1 0 rfl o
          exact w_bin (we (ev_bin (ev_var rfl) (ev_k) (ev_addI)) (wv (w_call (w_cons (we (ev_var rfl) (w_cons (we (ev_k) (w_nil (w_call1 0 (sp_l_draw pick.2 (100 : Int)) rfl rfl rfl (fun _ => rfl)))))))) fun g_ => (w_ok (rep := fun (g : Int × List Int) => fe g.1) (L' := fun (g : Int × List Int) => [(0, .lst (List.map em (g.2 : List Int)))]) (ev_addI) (fun _ o => o))))
        · refine ws_skip ?_
          refine ws_assoc ?_
          refine ws_ifP (ev_tru (ev_bin (ev_var rfl) (ev_k) (ev_eq (α := Int) pk_fz pk_fz)) (ev_truB)) (fun _ => ?_) (fun _ => ?_)
          · refine ws_retK (kr := fun (g : Int) => (g, pick.2)) (rep := fun (g : Int) => fe g) (L' := fun (g : Int) => [(0, .lst (List.map em (pick.2 : List Int)))]) ?_ fun _ _ o => qf1 0 rfl o
            exact w_bin (we (ev_var rfl) (we (ev_k) (w_fdiv)))
          · refine ws_skip ?_
            refine ws_retK (kr := fun (g : Int × List Int) => (g.1, g.2)) (rep := fun (g : Int × List Int) => fe g.1) (L' := fun (g : Int × List Int) => [(0, .lst (List.map em (g.2 : List Int)))]) ?_ fun _ _ o => qf1 0 rfl o
            exact w_call (w_cons (we (ev_var rfl) (w_cons (we (ev_k) (w_nil (w_call1 0 (sp_l_draw pick.2 (4 : Int)) rfl rfl rfl (fun _ => rfl)))))))
theorem lb_l_deeds_1 (names : Tu Str) (span : Int) (style : Int) (o1 : Option D) (o3 : Option D) (n0 : Nat) (n1 : Nat) : ∀ (s : Int × (List Int) × (List P) × (List (Tu Int))) (j : Option D × Option D × Option D) (x : Int), Wk ([(0, .lst (List.map em (s.2.1 : List Int))), (n0, .lst (List.map em (s.2.2.1 : List P))), (n1, .lst (List.map em (s.2.2.2 : List (Tu Int))))]) (n_l_deeds_1 names span style s x) (b_l_deeds_1 ([some (.cell 0), o1, some (fe (names : Tu Str)), o3, some (fe (span : Int)), some (fe (style : Int)), some (.cell n0), some (.cell n1), some (fe (s.1 : Int)), some (fe (x : Int)), none, j.2.1, j.2.2])) (QB (fun (s : Int × (List Int) × (List P) × (List (Tu Int))) (j : Option D × Option D × Option D) => [some (.cell 0), o1, some (fe (names : Tu Str)), o3, some (fe (span : Int)), some (fe (style : Int)), some (.cell n0), some (.cell n1), some (fe (s.1 : Int)), j.1, none, j.2.1, j.2.2]) (fun s j => [(0, .lst (List.map em (s.2.1 : List Int))), (n0, .lst (List.map em (s.2.2.1 : List P))), (n1, .lst (List.map em (s.2.2.2 : List (Tu Int))))])) X0 := fun s j x => by
  unfold n_l_deeds_1
  delta b_l_deeds_1
  refine ws_last ?_
  refine ws_assoc ?_
  refine ws_set (rep := fun (g : Int × List Int) => fe g.1) (L' := fun (g : Int × List Int) => [(0, .lst (List.map em (g.2 : List Int))), (n0, .lst (List.map em (s.2.2.1 : List P))), (n1, .lst (List.map em (s.2.2.2 : List (Tu Int))))]) ?_ fun pick => ?_
  · exact w_call (w_cons (we (ev_var rfl) (w_cons (we (ev_k) (w_nil (w_call1 0 (sp_l_draw s.2.1 (12 : Int)) rfl rfl rfl (fun _ => rfl)))))))
  refine ws_assoc ?_
  refine ws_set (rep := fun (g : Str × List Int) => fe g.1) (L' := fun (g : Str × List Int) => [(0, .lst (List.map em (g.2 : List Int))), (n0, .lst (List.map em (s.2.2.1 : List P))), (n1, .lst (List.map em (s.2.2.2 : List (Tu Int))))]) ?_ fun name => ?_
  · exact w_bin (we (ev_var rfl) (wv (w_call (w_cons (we (ev_var rfl) (w_cons (we (ev_ap (ev_cons (ev_var rfl) (ev_nil)) (ev_lenT pk_fz)) (w_nil (w_call1 0 (sp_l_draw pick.2 (lenI names.l)) rfl rfl rfl (fun _ => rfl)))))))) fun g_ => (w_withS (L' := fun (z9 : List Int) => [(0, .lst (List.map em (z9 : List Int))), (n0, .lst (List.map em (s.2.2.1 : List P))), (n1, .lst (List.map em (s.2.2.2 : List (Tu Int))))]) (w_idxT pk_fz) (fun _ o => o))))
  refine ws_ifP (ev_tru (ev_bin (ev_var rfl) (ev_k) (ev_lt)) (ev_truB)) (fun _ => ?_) (fun _ => ?_)
  · refine ws_assoc ?_
    refine ws_set (rep := fun (g : Int × List Int) => fe g.1) (L' := fun (g : Int × List Int) => [(0, .lst (List.map em (g.2 : List Int))), (n0, .lst (List.map em (s.2.2.1 : List P))), (n1, .lst (List.map em (s.2.2.2 : List (Tu Int))))]) ?_ fun now => ?_
    · exact w_bin (we (ev_var rfl) (wv (w_call (w_cons (we (ev_var rfl) (w_cons (we (ev_var rfl) (w_nil (w_call1 0 (sp_l_step name.2 span) rfl rfl rfl (fun _ => rfl)))))))) fun g_2 => (w_ok (rep := fun (g : Int × List Int) => fe g.1) (L' := fun (g : Int × List Int) => [(0, .lst (List.map em (g.2 : List Int))), (n0, .lst (List.map em (s.2.2.1 : List P))), (n1, .lst (List.map em (s.2.2.2 : List (Tu Int))))]) (ev_addI) (fun _ o => o))))
    refine ws_append (rep := fun (g : (T4 Str Str Int Int) × List Int) => fe g.1) (L' := fun (g : (T4 Str Str Int Int) × List Int) => [(0, .lst (List.map em (g.2 : List Int))), (n0, .lst (List.map em (s.2.2.1 : List P))), (n1, .lst (List.map em (s.2.2.2 : List (Tu Int))))]) (v := fun (g_4 : (T4 Str Str Int Int) × List Int) => ((em (g_4.1 : T4 Str Str Int Int)) : P)) (ys := fun (g_4 : (T4 Str Str Int Int) × List Int) => s.2.2.1) (kp := 1) ?_ rfl rfl (fun _ => fz_fz) (fun _ => rfl) fun g_4 deeds => ?_
    · exact w_ap (w_cons (we (ev_k) (w_cons (we (ev_var rfl) (w_cons (we (ev_var rfl) (w_cons (wv (w_call (w_cons (we (ev_var rfl) (w_cons (we (ev_var rfl) (w_nil (w_call1 0 (sp_l_value now.2 style) rfl rfl rfl (fun _ => rfl)))))))) fun g_3 => (w_nil (w_ok (rep := fun (g : (T4 Str Str Int Int) × List Int) => fe g.1) (L' := fun (g : (T4 Str Str Int Int) × List Int) => [(0, .lst (List.map em (g.2 : List Int))), (n0, .lst (List.map em (s.2.2.1 : List P))), (n1, .lst (List.map em (s.2.2.2 : List (Tu Int))))]) (ev_tup [em (("event" : Str) : Str), em (name.1 : Str), em (now.1 : Int), em (g_3.1 : Int)]) (fun _ o => o)))))))))))
    exact ws_end fun _ o => ⟨.inl rfl, (some (fe (x : Int)), some (fe (pick.1 : Int)), some (fe (name.1 : Str))), rfl, o⟩
  · refine ws_ifP (ev_tru (ev_bin (ev_var rfl) (ev_k) (ev_eq (α := Int) pk_fz pk_fz)) (ev_truB)) (fun _ => ?_) (fun _ => ?_)
    · refine ws_append (rep := fun (g : (T4 Str Str Int Int) × List Int) => fe g.1) (L' := fun (g : (T4 Str Str Int Int) × List Int) => [(0, .lst (List.map em (g.2 : List Int))), (n0, .lst (List.map em (s.2.2.1 : List P))), (n1, .lst (List.map em (s.2.2.2 : List (Tu Int))))]) (v := fun (g_8 : (T4 Str Str Int Int) × List Int) => ((em (g_8.1 : T4 Str Str Int Int)) : P)) (ys := fun (g_8 : (T4 Str Str Int Int) × List Int) => s.2.2.1) (kp := 1) ?_ rfl rfl (fun _ => fz_fz) (fun _ => rfl) fun g_8 deeds2 => ?_
      · exact w_ap (w_cons (we (ev_k) (w_cons (we (ev_var rfl) (w_cons (wv (w_bin (we (ev_var rfl) (wv (w_call (w_cons (we (ev_var rfl) (w_cons (we (ev_k) (w_nil (w_call1 0 (sp_l_draw name.2 (5 : Int)) rfl rfl rfl (fun _ => rfl)))))))) fun g_5 => (w_ok (rep := fun (g : Int × List Int) => fe g.1) (L' := fun (g : Int × List Int) => [(0, .lst (List.map em (g.2 : List Int))), (n0, .lst (List.map em (s.2.2.1 : List P))), (n1, .lst (List.map em (s.2.2.2 : List (Tu Int))))]) (ev_subI) (fun _ o => o))))) fun g_6 => (w_cons (wv (w_call (w_cons (we (ev_var rfl) (w_cons (we (ev_var rfl) (w_nil (w_call1 0 (sp_l_value g_6.2 style) rfl rfl rfl (fun _ => rfl)))))))) fun g_7 => (w_nil (w_ok (rep := fun (g : (T4 Str Str Int Int) × List Int) => fe g.1) (L' := fun (g : (T4 Str Str Int Int) × List Int) => [(0, .lst (List.map em (g.2 : List Int))), (n0, .lst (List.map em (s.2.2.1 : List P))), (n1, .lst (List.map em (s.2.2.2 : List (Tu Int))))]) (ev_tup [em (("event" : Str) : Str), em (name.1 : Str), em (g_6.1 : Int), em (g_7.1 : Int)]) (fun _ o => o)))))))))))
      exact ws_end fun _ o => ⟨.inl rfl, (some (fe (x : Int)), some (fe (pick.1 : Int)), some (fe (name.1 : Str))), rfl, o⟩
    · refine ws_ifP (ev_tru (ev_bin (ev_var rfl) (ev_k) (ev_eq (α := Int) pk_fz pk_fz)) (ev_truB)) (fun _ => ?_) (fun _ => ?_)
      · refine ws_append (rep := fun (g : (T2 Str Int) × List Int) => fe g.1) (L' := fun (g : (T2 Str Int) × List Int) => [(0, .lst (List.map em (g.2 : List Int))), (n0, .lst (List.map em (s.2.2.1 : List P))), (n1, .lst (List.map em (s.2.2.2 : List (Tu Int))))]) (v := fun (g_11 : (T2 Str Int) × List Int) => ((em (g_11.1 : T2 Str Int)) : P)) (ys := fun (g_11 : (T2 Str Int) × List Int) => s.2.2.1) (kp := 1) ?_ rfl rfl (fun _ => fz_fz) (fun _ => rfl) fun g_11 deeds3 => ?_
        · exact w_ap (w_cons (we (ev_k) (w_cons (wv (w_bin (we (ev_bin (ev_var rfl) (ev_k) (ev_subI)) (wv (w_call (w_cons (we (ev_var rfl) (w_cons (we (ev_k) (w_nil (w_call1 0 (sp_l_draw name.2 (3 : Int)) rfl rfl rfl (fun _ => rfl)))))))) fun g_9 => (w_ok (rep := fun (g : Int × List Int) => fe g.1) (L' := fun (g : Int × List Int) => [(0, .lst (List.map em (g.2 : List Int))), (n0, .lst (List.map em (s.2.2.1 : List P))), (n1, .lst (List.map em (s.2.2.2 : List (Tu Int))))]) (ev_addI) (fun _ o => o))))) fun g_10 => (w_nil (w_ok (rep := fun (g : (T2 Str Int) × List Int) => fe g.1) (L' := fun (g : (T2 Str Int) × List Int) => [(0, .lst (List.map em (g.2 : List Int))), (n0, .lst (List.map em (s.2.2.1 : List P))), (n1, .lst (List.map em (s.2.2.2 : List (Tu Int))))]) (ev_tup [em (("raise" : Str) : Str), em (g_10.1 : Int)]) (fun _ o => o)))))))
        exact ws_end fun _ o => ⟨.inl rfl, (some (fe (x : Int)), some (fe (pick.1 : Int)), some (fe (name.1 : Str))), rfl, o⟩
      · refine ws_ifP (ev_tru (ev_bin (ev_var rfl) (ev_k) (ev_eq (α := Int) pk_fz pk_fz)) (ev_truB)) (fun _ => ?_) (fun _ => ?_)
        · refine ws_append (rep := fun (g : (T2 Str Int) × List Int) => fe g.1) (L' := fun (g : (T2 Str Int) × List Int) => [(0, .lst (List.map em (g.2 : List Int))), (n0, .lst (List.map em (s.2.2.1 : List P))), (n1, .lst (List.map em (s.2.2.2 : List (Tu Int))))]) (v := fun (g_14 : (T2 Str Int) × List Int) => ((em (g_14.1 : T2 Str Int)) : P)) (ys := fun (g_14 : (T2 Str Int) × List Int) => s.2.2.1) (kp := 1) ?_ rfl rfl (fun _ => fz_fz) (fun _ => rfl) fun g_14 deeds4 => ?_
          · exact w_ap (w_cons (we (ev_k) (w_cons (wv (w_bin (we (ev_bin (ev_var rfl) (ev_var rfl) (ev_addI)) (wv (w_call (w_cons (we (ev_var rfl) (w_cons (we (ev_k) (w_nil (w_call1 0 (sp_l_draw name.2 (2 : Int)) rfl rfl rfl (fun _ => rfl)))))))) fun g_12 => (w_ok (rep := fun (g : Int × List Int) => fe g.1) (L' := fun (g : Int × List Int) => [(0, .lst (List.map em (g.2 : List Int))), (n0, .lst (List.map em (s.2.2.1 : List P))), (n1, .lst (List.map em (s.2.2.2 : List (Tu Int))))]) (ev_addI) (fun _ o => o))))) fun g_13 => (w_nil (w_ok (rep := fun (g : (T2 Str Int) × List Int) => fe g.1) (L' := fun (g : (T2 Str Int) × List Int) => [(0, .lst (List.map em (g.2 : List Int))), (n0, .lst (List.map em (s.2.2.1 : List P))), (n1, .lst (List.map em (s.2.2.2 : List (Tu Int))))]) (ev_tup [em (("raise" : Str) : Str), em (g_13.1 : Int)]) (fun _ o => o)))))))
          exact ws_end fun _ o => ⟨.inl rfl, (some (fe (x : Int)), some (fe (pick.1 : Int)), some (fe (name.1 : Str))), rfl, o⟩
        · refine ws_ifP (ev_and (ev_tru (ev_bin (ev_var rfl) (ev_k) (ev_eq (α := Int) pk_fz pk_fz)) (ev_truB)) (ev_tru (ev_var rfl) (ev_truL (pk_lst 2)))) (fun _ => ?_) (fun _ => ?_)
          · refine ws_append (rep := fun (g : (T2 Str (Tu Int)) × List (Tu Int)) => fe g.1) (L' := fun (g : (T2 Str (Tu Int)) × List (Tu Int)) => [(0, .lst (List.map em (name.2 : List Int))), (n0, .lst (List.map em (s.2.2.1 : List P))), (n1, .lst (List.map em (g.2 : List (Tu Int))))]) (v := fun (g_16 : (T2 Str (Tu Int)) × List (Tu Int)) => ((em (g_16.1 : T2 Str (Tu Int))) : P)) (ys := fun (g_16 : (T2 Str (Tu Int)) × List (Tu Int)) => s.2.2.1) (kp := 1) ?_ rfl rfl (fun _ => fz_fz) (fun _ => rfl) fun g_16 deeds5 => ?_
            · exact w_ap (w_cons (we (ev_k) (w_cons (wv (w_popK (kp := 2) (L' := fun (g : (Tu Int) × List (Tu Int)) => [(0, .lst (List.map em (name.2 : List Int))), (n0, .lst (List.map em (s.2.2.1 : List P))), (n1, .lst (List.map em (g.2 : List (Tu Int))))]) (ev_k) rfl rfl (fun _ => rfl)) fun g_15 => (w_nil (w_ok (rep := fun (g : (T2 Str (Tu Int)) × List (Tu Int)) => fe g.1) (L' := fun (g : (T2 Str (Tu Int)) × List (Tu Int)) => [(0, .lst (List.map em (name.2 : List Int))), (n0, .lst (List.map em (s.2.2.1 : List P))), (n1, .lst (List.map em (g.2 : List (Tu Int))))]) (ev_tup [em (("yard" : Str) : Str), em (g_15.1 : Tu Int)]) (fun _ o => o)))))))
            exact ws_end fun _ o => ⟨.inl rfl, (some (fe (x : Int)), some (fe (pick.1 : Int)), some (fe (name.1 : Str))), rfl, o⟩
          · refine ws_append (rep := fun (g : (T2 Str Int) × List Int) => fe g.1) (L' := fun (g : (T2 Str Int) × List Int) => [(0, .lst (List.map em (g.2 : List Int))), (n0, .lst (List.map em (s.2.2.1 : List P))), (n1, .lst (List.map em (s.2.2.2 : List (Tu Int))))]) (v := fun (g_19 : (T2 Str Int) × List Int) => ((em (g_19.1 : T2 Str Int)) : P)) (ys := fun (g_19 : (T2 Str Int) × List Int) => s.2.2.1) (kp := 1) ?_ rfl rfl (fun _ => fz_fz) (fun _ => rfl) fun g_19 deeds6 => ?_
            · exact w_ap (w_cons (we (ev_k) (w_cons (wv (w_bin (we (ev_var rfl) (wv (w_call (w_cons (we (ev_var rfl) (w_cons (we (ev_k) (w_nil (w_call1 0 (sp_l_draw name.2 (5 : Int)) rfl rfl rfl (fun _ => rfl)))))))) fun g_17 => (w_ok (rep := fun (g : Int × List Int) => fe g.1) (L' := fun (g : Int × List Int) => [(0, .lst (List.map em (g.2 : List Int))), (n0, .lst (List.map em (s.2.2.1 : List P))), (n1, .lst (List.map em (s.2.2.2 : List (Tu Int))))]) (ev_subI) (fun _ o => o))))) fun g_18 => (w_nil (w_ok (rep := fun (g : (T2 Str Int) × List Int) => fe g.1) (L' := fun (g : (T2 Str Int) × List Int) => [(0, .lst (List.map em (g.2 : List Int))), (n0, .lst (List.map em (s.2.2.1 : List P))), (n1, .lst (List.map em (s.2.2.2 : List (Tu Int))))]) (ev_tup [em (("raise" : Str) : Str), em (g_18.1 : Int)]) (fun _ o => o)))))))
            exact ws_end fun _ o => ⟨.inl rfl, (some (fe (x : Int)), some (fe (pick.1 : Int)), some (fe (name.1 : Str))), rfl, o⟩
theorem lb_l_deeds_2  (o1 : Option D) (o2 : Option D) (o3 : Option D) (o4 : Option D) (o5 : Option D) (o8 : Option D) (o9 : Option D) (o11 : Option D) (o12 : Option D) (q0 : List Int) (q2 : List (Tu Int)) (n0 : Nat) (n1 : Nat) : ∀ (s : (List P)) (j : Option D) (x : Tu Int), Wk ([(0, .lst (List.map em (q0 : List Int))), (n0, .lst (List.map em (s : List P))), (n1, .frz (.lst (List.map em (q2 : List (Tu Int)))))]) (n_l_deeds_2 s x) (b_l_deeds_2 ([some (.cell 0), o1, o2, o3, o4, o5, some (.cell n0), some (.cell n1), o8, o9, some (fe (x : Tu Int)), o11, o12])) (QB (fun (s : (List P)) (j : Option D) => [some (.cell 0), o1, o2, o3, o4, o5, some (.cell n0), some (.cell n1), o8, o9, j, o11, o12]) (fun s j => [(0, .lst (List.map em (q0 : List Int))), (n0, .lst (List.map em (s : List P))), (n1, .frz (.lst (List.map em (q2 : List (Tu Int)))))])) X0 := fun s j x => by
  unfold n_l_deeds_2
  delta b_l_deeds_2
  refine ws_last ?_
  refine ws_append (rep := fe (α := P)) (L' := fun (_ : P) => [(0, .lst (List.map em (q0 : List Int))), (n0, .lst (List.map em (s : List P))), (n1, .frz (.lst (List.map em (q2 : List (Tu Int)))))]) (v := fun (g_ : P) => (g_ : P)) (ys := fun (g_ : P) => s) (kp := 1) ?_ rfl rfl (fun _ => fz_fz) (fun _ => rfl) fun g_ deeds => ?_
  · exact w_ev (rep := fe) (ev_ap (ev_cons (ev_k) (ev_cons (ev_var rfl) (ev_nil))) (ev_tup [em (("yard" : Str) : Str), em (x : Tu Int)]))
  exact ws_end fun _ o => ⟨.inl rfl, (some (fe (x : Tu Int))), rfl, o⟩
theorem sp_l_deeds (stream : List Int) (count : Int) (names : Tu Str) (spots : Tu (Tu Int)) (span : Int) (style : Int) : Sp1 (fun s : List Int => Ct.lst (List.map em s)) (n_l_deeds stream count names spots span style) F_l_deeds [] [em (count : Int), em (names : Tu Str), em (spots : Tu (Tu Int)), em (span : Int), em (style : Int)] (.lst (List.map em stream)) := by
  refine sp1_of (fun _ => rfl) rfl [some (.cell 0), some (fe (count : Int)), some (fe (names : Tu Str)), some (fe (spots : Tu (Tu Int))), some (fe (span : Int)), some (fe (style : Int)), none, none, none, none, none, none, none] rfl ?_
  unfold n_l_deeds
  delta b_l_deeds
  refine ws_last ?_
  refine ws_assoc ?_
  refine ws_setN (w_newL (ev_nil)) fun deeds n_ => ?_
  refine ws_assoc ?_
  refine ws_setN (w_ap (w_cons (we (ev_var rfl) (w_nil (w_listOT pk_fz))))) fun left n_2 => ?_
  refine ws_assoc ?_
  refine ws_set (rep := fun (g : Int × List Int) => fe g.1) (L' := fun (g : Int × List Int) => [(0, .lst (List.map em (g.2 : List Int))), (n_, .lst (List.map em (deeds : List P))), (n_2, .lst (List.map em (left : List (Tu Int))))]) ?_ fun now => ?_
  · exact w_call (w_cons (we (ev_var rfl) (w_cons (we (ev_var rfl) (w_nil (w_call1 0 (sp_l_value stream style) rfl rfl rfl (fun _ => rfl)))))))
  refine ws_assoc ?_
  refine ws_cut (J := Option D × Option D × Option D) (E := fun (s9 : Int × (List Int) × (List P) × (List (Tu Int))) (j9 : Option D × Option D × Option D) => [some (.cell 0), some (fe (count : Int)), some (fe (names : Tu Str)), some (fe (spots : Tu (Tu Int))), some (fe (span : Int)), some (fe (style : Int)), some (.cell n_), some (.cell n_2), some (fe (s9.1 : Int)), j9.1, none, j9.2.1, j9.2.2]) (Lf := fun s9 j9 => [(0, .lst (List.map em (s9.2.1 : List Int))), (n_, .lst (List.map em (s9.2.2.1 : List P))), (n_2, .lst (List.map em (s9.2.2.2 : List (Tu Int))))]) ?_ fun now_q_q_q j_ => ?_
  · refine w_forR1P (j := count) (ev_var rfl) (fun xs => ?_)
    exact loop_fold (E := fun (s9 : Int × (List Int) × (List P) × (List (Tu Int))) (j9 : Option D × Option D × Option D) => [some (.cell 0), some (fe (count : Int)), some (fe (names : Tu Str)), some (fe (spots : Tu (Tu Int))), some (fe (span : Int)), some (fe (style : Int)), some (.cell n_), some (.cell n_2), some (fe (s9.1 : Int)), j9.1, none, j9.2.1, j9.2.2]) (Lf := fun s9 j9 => [(0, .lst (List.map em (s9.2.1 : List Int))), (n_, .lst (List.map em (s9.2.2.1 : List P))), (n_2, .lst (List.map em (s9.2.2.2 : List (Tu Int))))]) (h := em) (fun _ _ _ _ => rfl) (lb_l_deeds_1 names span style (some (fe (count : Int))) (some (fe (spots : Tu (Tu Int)))) n_ n_2) _ (now.1, now.2, deeds, left) (none, none, none)
  refine ws_assoc ?_
  refine ws_cut (J := Option D) (E := fun (s92 : (List P)) (j92 : Option D) => [some (.cell 0), some (fe (count : Int)), some (fe (names : Tu Str)), some (fe (spots : Tu (Tu Int))), some (fe (span : Int)), some (fe (style : Int)), some (.cell n_), some (.cell n_2), some (fe (now_q_q_q.1 : Int)), j_.1, j92, j_.2.1, j_.2.2]) (Lf := fun s92 j92 => [(0, .lst (List.map em (now_q_q_q.2.1 : List Int))), (n_, .lst (List.map em (s92 : List P))), (n_2, .frz (.lst (List.map em (now_q_q_q.2.2.2 : List (Tu Int)))))]) ?_ fun q_ j_2 => ?_
  · refine w_forP (it := now_q_q_q.2.2.2) (ev_var rfl) (src_l (fz_c 2)) ?_
    exact loop_fold (E := fun (s92 : (List P)) (j92 : Option D) => [some (.cell 0), some (fe (count : Int)), some (fe (names : Tu Str)), some (fe (spots : Tu (Tu Int))), some (fe (span : Int)), some (fe (style : Int)), some (.cell n_), some (.cell n_2), some (fe (now_q_q_q.1 : Int)), j_.1, j92, j_.2.1, j_.2.2]) (Lf := fun s92 j92 => [(0, .lst (List.map em (now_q_q_q.2.1 : List Int))), (n_, .lst (List.map em (s92 : List P))), (n_2, .frz (.lst (List.map em (now_q_q_q.2.2.2 : List (Tu Int)))))]) (h := em) (fun _ _ _ _ => rfl) (lb_l_deeds_2 (some (fe (count : Int))) (some (fe (names : Tu Str))) (some (fe (spots : Tu (Tu Int)))) (some (fe (span : Int))) (some (fe (style : Int))) (some (fe (now_q_q_q.1 : Int))) j_.1 j_.2.1 j_.2.2 now_q_q_q.2.1 now_q_q_q.2.2.2 n_ n_2) _ now_q_q_q.2.2.1 none
  exact ws_ret0 (ev_var rfl) fun _ o => qf1c 0 1 rfl o
theorem sp_l_world (stream : List Int) : Sp1 (fun s : List Int => Ct.lst (List.map em s)) (n_l_world stream) F_l_world [] [] (.lst (List.map em stream)) := by
  refine sp1_of (fun _ => rfl) rfl [some (.cell 0), none, none, none, none, none] rfl ?_
  unfold n_l_world
  delta b_l_world
  refine ws_last ?_
  refine ws_assoc ?_
  refine ws_set (w_ev (rep := fe (α := Tu (Tu Str))) (ev_ap (ev_cons (ev_ap (ev_cons (ev_k) (ev_nil)) (ev_tup [em (("a" : Str) : Str)])) (ev_cons (ev_ap (ev_cons (ev_k) (ev_cons (ev_k) (ev_nil))) (ev_tup [em (("a" : Str) : Str), em (("b" : Str) : Str)])) (ev_cons (ev_ap (ev_cons (ev_k) (ev_cons (ev_k) (ev_nil))) (ev_tup [em (("ab" : Str) : Str), em (("a" : Str) : Str)])) (ev_cons (ev_ap (ev_cons (ev_k) (ev_cons (ev_k) (ev_cons (ev_k) (ev_nil)))) (ev_tup [em (("k" : Str) : Str), em (("kk" : Str) : Str), em (("kkkkkkkk" : Str) : Str)])) (ev_cons (ev_ap (ev_cons (ev_k) (ev_cons (ev_k) (ev_cons (ev_k) (ev_nil)))) (ev_tup [em (("zz" : Str) : Str), em (("a" : Str) : Str), em (("zza" : Str) : Str)])) (ev_nil)))))) (ev_tup [em ((⟨[("a" : Str)]⟩ : Tu Str) : Tu Str), em ((⟨[("a" : Str), ("b" : Str)]⟩ : Tu Str) : Tu Str), em ((⟨[("ab" : Str), ("a" : Str)]⟩ : Tu Str) : Tu Str), em ((⟨[("k" : Str), ("kk" : Str), ("kkkkkkkk" : Str)]⟩ : Tu Str) : Tu Str), em ((⟨[("zz" : Str), ("a" : Str), ("zza" : Str)]⟩ : Tu Str) : Tu Str)]))) fun menu => ?_
  refine ws_assoc ?_
  refine ws_set (rep := fun (g : (Tu Str) × List Int) => fe g.1) (L' := fun (g : (Tu Str) × List Int) => [(0, .lst (List.map em (g.2 : List Int)))]) ?_ fun names => ?_
  · exact w_bin (we (ev_var rfl) (wv (w_call (w_cons (we (ev_var rfl) (w_cons (we (ev_k) (w_nil (w_call1 0 (sp_l_draw stream (5 : Int)) rfl rfl rfl (fun _ => rfl)))))))) fun g_ => (w_withS (L' := fun (z9 : List Int) => [(0, .lst (List.map em (z9 : List Int)))]) (w_idxT pk_fz) (fun _ o => o))))
  refine ws_assoc ?_
  refine ws_set (rep := fun (g : (Tu (Tu Int)) × List Int) => fe g.1) (L' := fun (g : (Tu (Tu Int)) × List Int) => [(0, .lst (List.map em (g.2 : List Int)))]) ?_ fun spots => ?_
  · exact w_bin (we (ev_ap (ev_cons (ev_ap (ev_nil) (ev_tup [])) (ev_cons (ev_ap (ev_cons (ev_ap (ev_cons (ev_k) (ev_cons (ev_k) (ev_nil))) (ev_tup [em ((0 : Int) : Int), em ((2 : Int) : Int)])) (ev_nil)) (ev_tup [em ((⟨[(0 : Int), (2 : Int)]⟩ : Tu Int) : Tu Int)])) (ev_cons (ev_ap (ev_cons (ev_ap (ev_cons (ev_k) (ev_nil)) (ev_tup [em ((5 : Int) : Int)])) (ev_cons (ev_ap (ev_cons (ev_k) (ev_cons (ev_k) (ev_cons (ev_k) (ev_cons (ev_k) (ev_cons (ev_k) (ev_cons (ev_k) (ev_nil))))))) (ev_tup [em ((0 : Int) : Int), em ((1 : Int) : Int), em ((2 : Int) : Int), em ((3 : Int) : Int), em ((4 : Int) : Int), em ((5 : Int) : Int)])) (ev_cons (ev_ap (ev_cons (ev_k) (ev_nil)) (ev_tup [em ((1 : Int) : Int)])) (ev_nil)))) (ev_tup [em ((⟨[(5 : Int)]⟩ : Tu Int) : Tu Int), em ((⟨[(0 : Int), (1 : Int), (2 : Int), (3 : Int), (4 : Int), (5 : Int)]⟩ : Tu Int) : Tu Int), em ((⟨[(1 : Int)]⟩ : Tu Int) : Tu Int)])) (ev_nil)))) (ev_tup [em ((⟨[]⟩ : Tu (Tu Int)) : Tu (Tu Int)), em ((⟨[(⟨[(0 : Int), (2 : Int)]⟩ : Tu Int)]⟩ : Tu (Tu Int)) : Tu (Tu Int)), em ((⟨[(⟨[(5 : Int)]⟩ : Tu Int), (⟨[(0 : Int), (1 : Int), (2 : Int), (3 : Int), (4 : Int), (5 : Int)]⟩ : Tu Int), (⟨[(1 : Int)]⟩ : Tu Int)]⟩ : Tu (Tu Int)) : Tu (Tu Int))])) (wv (w_call (w_cons (we (ev_var rfl) (w_cons (we (ev_k) (w_nil (w_call1 0 (sp_l_draw names.2 (3 : Int)) rfl rfl rfl (fun _ => rfl)))))))) fun g_2 => (w_withS (L' := fun (z9 : List Int) => [(0, .lst (List.map em (z9 : List Int)))]) (w_idxT pk_fz) (fun _ o => o))))
  refine ws_assoc ?_
  refine ws_set (rep := fun (g : Int × List Int) => fe g.1) (L' := fun (g : Int × List Int) => [(0, .lst (List.map em (g.2 : List Int)))]) ?_ fun span => ?_
  · exact w_call (w_cons (we (ev_var rfl) (w_nil (w_call1 0 (sp_l_span spots.2) rfl rfl rfl (fun _ => rfl)))))
  refine ws_assoc ?_
  refine ws_set (rep := fun (g : Int × List Int) => fe g.1) (L' := fun (g : Int × List Int) => [(0, .lst (List.map em (g.2 : List Int)))]) ?_ fun style => ?_
  · exact w_call (w_cons (we (ev_var rfl) (w_cons (we (ev_k) (w_nil (w_call1 0 (sp_l_draw span.2 (6 : Int)) rfl rfl rfl (fun _ => rfl)))))))
  refine ws_retK (kr := fun (g : (T2 (Tu Str) (List P)) × List Int) => (g.1, g.2)) (rep := fun (g : (T2 (Tu Str) (List P)) × List Int) => fe g.1) (L' := fun (g : (T2 (Tu Str) (List P)) × List Int) => [(0, .lst (List.map em (g.2 : List Int)))]) ?_ fun _ _ o => qf1 0 rfl o
  exact w_ap (w_cons (we (ev_var rfl) (w_cons (wv (w_call (w_cons (we (ev_var rfl) (w_cons (wv (w_call (w_cons (we (ev_var rfl) (w_cons (we (ev_k) (w_nil (w_call1 0 (sp_l_draw style.2 (15 : Int)) rfl rfl rfl (fun _ => rfl)))))))) fun g_3 => (w_cons (we (ev_var rfl) (w_cons (we (ev_var rfl) (w_cons (we (ev_var rfl) (w_cons (we (ev_var rfl) (w_nil (w_call1 0 (sp_l_deeds g_3.2 g_3.1 names.1 spots.1 span.1 style.1) rfl rfl rfl (fun _ => rfl)))))))))))))))) fun g_4 => (w_nil (w_ok (rep := fun (g : (T2 (Tu Str) (List P)) × List Int) => fe g.1) (L' := fun (g : (T2 (Tu Str) (List P)) × List Int) => [(0, .lst (List.map em (g.2 : List Int)))]) (ev_tup [em (names.1 : Tu Str), em (g_4.1 : List P)]) (fun _ o => o)))))))
end G
end
section
set_option Elab.async false
set_option linter.all false
set_option maxRecDepth 100000
set_option maxHeartbeats 0
namespace N
open PySem L2 M
variable {α β γ δ σ τ κ : Type}
section
variable {L : Ow} {X : XP} {η : Et} {y : DS}
theorem ev_get9 [Em β] {fo fk fx : DE} {d : D} {k : Str} {x : β} {ys : List (T2 Str β)} (hd : Ev L (fo η) d) (hk : Ev L (fk η) (fe k)) (hx : Ev L (fx η) (fe x)) (hs : ∀ st, Own L st → dctOf st d = some (kvE ys)) : Ev L (dGet2 fo fk fx η) (fe ((kget k ys).getD x)) := fun st o => by
  unfold dGet2
  rw [hd st o, bind_ok]
  dsimp only
  rw [hs st o]
  dsimp only
  rw [hk st o, bind_ok]
  dsimp only
  rw [hx st o, bind_ok]
  dsimp only
  rw [hs st o]
  have e3 : (peek st (fe k)).bind keyP = some (.inr k) := rfl
  rw [e3]
  dsimp only
  rw [getK_kv]
  cases kget k ys <;> rfl
theorem w_get9 [Em β] {fo fk fx : DE} {d : D} {mk : Rs Str} {x : β} {ys : List (T2 Str β)} (hd : Ev L (fo η) d) (hk : Wk L mk (fk η) (PV fe fun _ => L) X) (hx : Ev L (fx η) (fe x)) (hs : ∀ st, Own L st → dctOf st d = some (kvE ys)) : Wk L (mk.bind fun k => Rs.ok ((kget k ys).getD x)) (dGet2 fo fk fx η) (PV fe fun _ => L) X := fun st o => by
  have h := hk st o
  have e0 : dGet2 fo fk fx η st = (fk η st).bind fun k => (fx η k.2).bind fun x => match dctOf x.2 d, (peek x.2 k.1).bind keyP with
    | some kvs, some k => (match getK k kvs with
      | some q => .ok (.fz q, x.2)
      | none => .ok x)
    | _, _ => .stuck := by
    unfold dGet2
    rw [hd st o, bind_ok]
    dsimp only
    rw [hs st o] <;> rfl
  cases mk with
  | stuck => trivial
  | exc c fs =>
    obtain ⟨e, st', h1, h2⟩ := h
    exact ⟨e, st', by rw [e0, h1]; rfl, h2⟩
  | ok k =>
    obtain ⟨⟨b, st'⟩, h1, h2, o'⟩ := h
    have h2 : b = fe k := h2
    subst h2
    refine ⟨(fe ((kget k ys).getD x), st'), ?_, rfl, o'⟩
    rw [e0, h1, bind_ok]
    dsimp only
    rw [hx st' o', bind_ok]
    dsimp only
    rw [hs st' o']
    have e3 : (peek st' (fe k)).bind keyP = some (.inr k) := rfl
    rw [e3]
    dsimp only
    rw [getK_kv]
    cases kget k ys <;> rfl
theorem dct_fz [Em β] {ys : List (T2 Str β)} : ∀ st : Sr, Own L st → dctOf st (.fz (.dct (kvE ys))) = some (kvE ys) := fun st o => rfl
theorem dct_cell [Em β] {kp n : Nat} {ys : List (T2 Str β)} (h : L[kp]? = some (n, .c (.dct (kvE ys)))) : ∀ st : Sr, Own L st → dctOf st (.cell n) = some (kvE ys) := fun st o => by
  unfold dctOf
  rw [show peek st (.cell n) = some (.dct (kvE ys)) from peek_dct (o.get kp h)]
theorem ws_put9 [Em β] {n kp i : Nat} {fv fk : DE} {mv : Rs δ} {mk : δ → Rs Str} {val : δ → β} {ys : List (T2 Str β)} {kk : List (T2 Str β) → Rs γ} {Q : γ → Fl × Et × Sr → Prop} (V : Wk L mv (fv η) (PV (fun g => fe (val g)) fun _ => L) X) (hv : η[i]? = some (some (.cell n))) (K : ∀ g, Wk L (mk g) (fk η) (PV fe fun _ => L) X)
    (h1 : L[kp]? = some (n, .c (.dct (kvE ys)))) (hk : ∀ zs, Wk (L.set kp (n, .c (.dct (kvE zs)))) (kk zs) (y η) Q X) :
    Wk L (mv.bind fun g => (mk g).bind fun k => (putK9 ys k (val g)).bind kk) (dSeq (dPut fv (dVar i) fk) y η) Q X := fun st o => by
  have h := V st o
  cases mv with
  | stuck => trivial
  | exc cl fs =>
    obtain ⟨e, st', q1, q2⟩ := h
    exact ⟨e, st', by unfold dSeq dPut; rw [q1]; rfl, q2⟩
  | ok g =>
    obtain ⟨⟨b, st'⟩, e1, e2, e3⟩ := h
    have e2 : b = fe (val g) := e2
    subst e2
    show (match (mk g).bind fun k => (putK9 ys k (val g)).bind kk with | .ok g => _ | .exc cl fs => _ | .stuck => True)
    have hK := K g st' e3
    cases em9 : mk g with
    | stuck => trivial
    | exc cl fs =>
      rw [em9] at hK
      obtain ⟨e, st2, q1, q2⟩ := hK
      refine ⟨e, st2, ?_, q2⟩
      unfold dSeq dPut
      rw [e1, bind_ok]
      dsimp only
      rw [e_var hv, bind_ok]
      dsimp only
      rw [q1]; rfl
    | ok k =>
      rw [em9] at hK
      obtain ⟨⟨b2, st2⟩, q1, q2, q3⟩ := hK
      have q2 : b2 = fe k := q2
      subst q2
      rw [ok_bind]
      unfold putK9
      by_cases hl : ndK (kvE ys) = true ∧ ys.length < 16777216
      · rw [if_pos hl, ok_bind]
        have e6 : dPut fv (dVar i) fk η st = .ok (.nx, η, st2.set n (.dct (kvE (kput k (val g) ys)))) := by
          unfold dPut
          rw [e1, bind_ok]
          dsimp only
          rw [e_var hv, bind_ok]
          dsimp only
          rw [q1, bind_ok]
          dsimp only
          rw [q3.get kp h1]
          have z3 : (peek st2 (fe k)).bind keyP = some (.inr k) := rfl
          have z4 : toP st2 (fe (val g)) = some (em (val g), st2) := rfl
          rw [z3, z4]
          dsimp only
          rw [q3.get kp h1]
          dsimp only
          rw [if_pos ⟨hl.1, by unfold kvE; rw [List.length_map]; exact hl.2⟩, putP_kv]
        have e7 := hk (kput k (val g) ys) _ (q3.set h1 (.dct (kvE (kput k (val g) ys))))
        have e8 : dSeq (dPut fv (dVar i) fk) y η st = y η (st2.set n (.dct (kvE (kput k (val g) ys)))) := by unfold dSeq; rw [e6]; rfl
        rw [← e8] at e7
        exact e7
      · rw [if_neg hl]; trivial
theorem fz_dk [Em β] {n : Nat} {ys : List (T2 Str β)} (k : Nat) (h : L[k]? = some (n, .c (.dct (kvE ys))) := by rfl) : Fz L (.cell n) (.dct (kvE ys)) (L.set k (n, .c (.frz (.dct (kvE ys))))) := fun st o => ⟨st.set n (.frz (.dct (kvE ys))), by unfold toP; dsimp only; rw [o.get k h], o.set h _⟩
end
end N
end
section
set_option Elab.async false
set_option linter.all false
set_option maxRecDepth 100000
set_option maxHeartbeats 0
namespace G
open PySem L2 M N
instance instEmGt : Em Gt := ⟨fun g => .tup [.dct (kvE g.lets), em g.fl, .dct (kvE g.cnt), .bl g.fin, .lst (List.map em g.late)]⟩
def tagM (deed : P) (s : Str) : Rs Bool := ((pixP deed 0).bind fun t => eqM (em t) (em s)).bind fun g_ => Rs.ok g_
def ixI (deed : P) (k : Int) : Rs Int := (pixP deed k).bind intP9
def ixS (deed : P) (k : Int) : Rs Str := (pixP deed k).bind strP
section
variable {L : Ow} {η : Et} {X : XP} {deed : P} {i : Nat} {k : Int}
theorem tag_at {s : Str} (h : η[i]? = some (some (fe deed))) : Wk L (tagM deed s) (dTru (dBin eqO (dBin ixO (dVar i) (dK (.int 0))) (dK (.str s))) η) (PV id fun _ => L) X :=
  w_tru (wv (w_bin (wv (w_bin (we (ev_var h) (we ev_k (w_pix pk_fz)))) fun t => we ev_k (w_eqM pk_fz pk_fz))) fun g_ => w_ev (rep := id) ev_truB)
theorem w_ixI (h : η[i]? = some (some (fe deed))) : Wk L (ixI deed k) (dBin ixO (dVar i) (dK (.int k)) η) (PV fe fun _ => L) X := w_intM (w_bin (we (ev_var h) (we ev_k (w_pix pk_fz))))
theorem w_ixS (h : η[i]? = some (some (fe deed))) : Wk L (ixS deed k) (dBin ixO (dVar i) (dK (.int k)) η) (PV fe fun _ => L) X := w_strM (w_bin (we (ev_var h) (we ev_k (w_pix pk_fz))))
end
theorem cnt_body {η : Et} {st : Sr} {n1 n : Nat} {all : List (T2 Str (List LtG))} {dn : List (T2 Str Int)} {x : T2 Str (List LtG)} (h1 : η[1]? = some (some (.cell n1))) (h3 : η[3]? = some (some (.cell n))) (h7 : η[7]? = some (some (fe x.a))) (k1 : st[n1]? = some (.ldct (kvE all))) (k3 : st[n]? = some (.dct (kvE dn))) (hg : kget x.a all = some x.b) (hn : x.a ∉ dn.map (·.a)) (hd : (dn.map (·.a)).Nodup) (hl : dn.length < 16777216) :
    b_l_gate_2 η st = .ok (.nx, η, st.set n (.dct (kvE (dn ++ [⟨x.a, lenI x.b⟩])))) := by
  have e1 : dAp lenO (dCons (dBin dIxKO (dVar 1) (dVar 7)) dNil) η st = .ok (fe (lenI x.b), st) := e_ap (e_cons (e_bin (e_var h1) (e_var h7) (ixk_at k1 hg)) e_nil) ((ev_len (L := []) (xs := x.b) pk_fz) st (Own.nil _))
  delta b_l_gate_2
  unfold dPut
  rw [e1, bind_ok]
  dsimp only
  rw [e_var h3, bind_ok]
  dsimp only
  rw [e_var h7, bind_ok]
  dsimp only
  rw [k3]
  have z3 : (peek st (fe x.a)).bind keyP = some (.inr x.a) := rfl
  have z4 : toP st (fe (lenI x.b)) = some (em (lenI x.b), st) := rfl
  rw [z3, z4]
  dsimp only
  rw [k3]
  dsimp only
  rw [if_pos ⟨by rw [ndK_kv]; exact decide_eq_true hd, by unfold kvE; rw [List.length_map]; exact hl⟩, putP_kv, kput_new hn]
theorem cnt_loop {n1 n : Nat} {all : List (T2 Str (List LtG))} (hne : n1 ≠ n) : ∀ (rest : List (T2 Str (List LtG))) (dn : List (T2 Str Int)) (η : Et) (st : Sr), η[1]? = some (some (.cell n1)) → η[3]? = some (some (.cell n)) → 7 < η.length → st[n1]? = some (.ldct (kvE all)) → st[n]? = some (.dct (kvE dn)) → (∀ x ∈ rest, kget x.a all = some x.b) → (dn.map (·.a) ++ rest.map (·.a)).Nodup → dn.length + rest.length < 16777216 →
    ∃ o7, loopD (gNm 7) b_l_gate_2 (rest.map fun x => P.str x.a) η st = .ok (.nx, η.set 7 o7, st.set n (.dct (kvE (dn ++ cntsOf rest))))
  | [], dn, η, st, h1, h3, h7, k1, k3, hg, hn, hl => by
    refine ⟨η[7], ?_⟩
    rw [List.set_getElem_self]
    show R.ok (Fl.nx, η, st) = _
    have : st.set n (.dct (kvE (dn ++ cntsOf []))) = st := by
      refine List.ext_getElem? fun j => ?_
      by_cases q : n = j
      · subst q
        rw [List.getElem?_set_self (lt_of_at k3), k3, show dn ++ cntsOf [] = dn from List.append_nil _]
      · rw [List.getElem?_set_ne q]
    rw [this]
  | x :: rest, dn, η, st, h1, h3, h7, k1, k3, hg, hn, hl => by
    rw [List.length_cons] at hl
    rw [List.map_cons] at hn
    have hx : x.a ∉ dn.map (·.a) := fun q => (List.nodup_append.mp hn).2.2 x.a q x.a List.mem_cons_self rfl
    have hnd := (List.nodup_append.mp hn).1
    have e1 : (η.set 7 (some (fe x.a)))[1]? = some (some (.cell n1)) := by rw [List.getElem?_set_ne (by decide)]; exact h1
    have e3 : (η.set 7 (some (fe x.a)))[3]? = some (some (.cell n)) := by rw [List.getElem?_set_ne (by decide)]; exact h3
    have eb := cnt_body (st := st) e1 e3 (List.getElem?_set_self h7) k1 k3 (hg x List.mem_cons_self) hx hnd (by omega)
    obtain ⟨o7, ih⟩ := cnt_loop hne rest (dn ++ [⟨x.a, lenI x.b⟩]) (η.set 7 (some (fe x.a))) (st.set n (.dct (kvE (dn ++ [⟨x.a, lenI x.b⟩])))) e1 e3 (by rw [List.length_set]; exact h7) (by rw [List.getElem?_set_ne hne.symm]; exact k1) (List.getElem?_set_self (lt_of_at k3)) (fun y hy => hg y (List.mem_cons_of_mem _ hy)) (by rw [List.map_append]; simpa using hn) (by rw [List.length_append, List.length_singleton]; omega)
    refine ⟨o7, ?_⟩
    rw [List.map_cons]
    have eg : gNm 7 (.fz (P.str x.a)) η st = some (η.set 7 (some (fe x.a))) := by
      unfold gNm
      first
        | rfl
        | exact if_pos h7
    unfold loopD
    rw [eg]
    show (b_l_gate_2 (η.set 7 (some (fe x.a))) st).bind _ = _
    rw [eb, bind_ok]
    show loopD (gNm 7) b_l_gate_2 (rest.map fun x => P.str x.a) (η.set 7 (some (fe x.a))) (st.set n (.dct (kvE (dn ++ [⟨x.a, lenI x.b⟩])))) = _
    rw [ih, List.set_set, List.set_set]
    have : dn ++ [(⟨x.a, lenI x.b⟩ : T2 Str Int)] ++ cntsOf rest = dn ++ cntsOf (x :: rest) := by
      rw [List.append_assoc]; rfl
    rw [this]
theorem forK_cnt {L : Ow} {η : Et} {X : XP} {n1 n a b : Nat} {lets : List (T2 Str (List LtG))} {γ : Type} {kk : List (T2 Str Int) → Rs γ} {y : DS} {Q : γ → Fl × Et × Sr → Prop} (h1 : η[1]? = some (some (.cell n1))) (h3 : η[3]? = some (some (.cell n))) (h7 : 7 < η.length) (k1 : L[a]? = some (n1, .c (.dct (kvE lets)))) (k3 : L[b]? = some (n, .c (.dct []))) (hab : a ≠ b) (hk : ∀ zs o7, Wk (L.set b (n, .c (.dct (kvE zs)))) (kk zs) (y (η.set 7 o7)) Q X) :
    Wk L ((cntM lets).bind kk) (dSeq (dForK (fpV 1) (gNm 7) b_l_gate_2) y η) Q X := fun st o => by
  unfold cntM
  by_cases c : (lets.map (·.a)).Nodup ∧ lets.length < 16777216
  · rw [if_pos c, ok_bind]
    have hne : n1 ≠ n := fun e => hab (o.ne k1 k3 e)
    have s1 := o.get a k1
    have s3 := o.get b k3
    obtain ⟨o7, ih⟩ := cnt_loop (all := lets) hne lets [] η (st.set n1 (.ldct (kvE lets))) h1 h3 h7 (List.getElem?_set_self (lt_of_at s1)) (by rw [List.getElem?_set_ne hne]; exact s3) (fun x hx => kget_in c.1 hx) (by simpa using c.1) (by simpa using c.2)
    have efp : fpV 1 η st = some n1 := by unfold fpV; rw [h1]
    have e1 : dForK (fpV 1) (gNm 7) b_l_gate_2 η st = .ok (.nx, η.set 7 o7, st.set n (.dct (kvE (cntsOf lets)))) := by
      unfold dForK
      rw [efp]
      dsimp only
      rw [s1]
      dsimp only
      rw [keysD_kv, ih]
      dsimp only
      rw [List.getElem?_set_ne hne.symm, List.getElem?_set_self (lt_of_at s1)]
      dsimp only
      rw [List.set_comm _ _ hne.symm, List.set_set]
      have e2 : st.set n1 (.dct (kvE lets)) = st := by
        refine List.ext_getElem? fun j => ?_
        by_cases q : n1 = j
        · subst q
          rw [List.getElem?_set_self (lt_of_at s1), s1]
        · rw [List.getElem?_set_ne q]
      rw [e2]
      rfl
    have e3 : dSeq (dForK (fpV 1) (gNm 7) b_l_gate_2) y η st = y (η.set 7 o7) (st.set n (.dct (kvE (cntsOf lets)))) := by unfold dSeq; rw [e1]; rfl
    have := hk (cntsOf lets) o7 _ (o.set k3 (.dct (kvE (cntsOf lets))))
    rw [← e3] at this
    exact this
  · rw [if_neg c]; trivial
end G
end
section
set_option Elab.async false
set_option linter.all false
set_option maxRecDepth 100000
set_option maxHeartbeats 0
namespace G
open PySem L2 M N
abbrev JG := Nat × Option D × Option D × Option D
def gE (deeds : List P) (n1 n5 : Nat) (g : Gt) (j : JG) : Et := [some (fe deeds), some (.cell n1), some (fe g.fl), some (.cell j.1), some (fe g.fin), some (.cell n5), j.2.1, j.2.2.1, j.2.2.2]
def gLf (n1 n5 : Nat) (g : Gt) (j : JG) : Ow := [(n1, .c (.dct (kvE g.lets))), (j.1, .c (.dct (kvE g.cnt))), (n5, .c (.lst (List.map em g.late)))]
def gs1 (g : Gt) (d : P) : Rs Gt :=
  ((tagM d "raise").bind fun b => if b = true then (Rs.ok g.fl.isNone).bind fun b => if b = true then Rs.ok true else (((ixI d 1).bind fun t => (unw g.fl).bind fun f => Rs.ok (decide (f < t))).bind fun g_ => Rs.ok g_) else Rs.ok false).bind fun b => if b = true then
    (ixI d 1).bind fun t => (cntM g.lets).bind fun zs => Rs.ok { g with fl := some t, cnt := zs } else Rs.ok g
def gs2 (g : Gt) (d : P) : Rs Gt := (tagM d "finish").bind fun b => if b = true then Rs.ok { g with fin := true } else Rs.ok g
def gs3 (g : Gt) (d : P) : Rs Gt := (tagM d "event").bind fun b => if b = true then
    (((ixS d 1).bind fun k => Rs.ok ((kget k g.lets).getD ([] : List LtG)))).bind fun row =>
    (((Rs.ok g.fl.isSome).bind fun b => if b = true then (((ixI d 2).bind fun t => (unw g.fl).bind fun f => Rs.ok (decide (t < f))).bind fun g_ => Rs.ok g_) else Rs.ok false).bind fun b => if b = true then Rs.ok true else
      (Rs.ok (!row.isEmpty)).bind fun b => if b = true then (((ixI d 2).bind fun t => ((N.idx row (-1)).bind fun r => Rs.ok r.b).bind fun l => Rs.ok (decide (t < l))).bind fun g_ => Rs.ok g_) else Rs.ok false).bind fun b => if b = true then
      ((ixS d 1).bind fun k => (ixI d 2).bind fun t => (ixI d 3).bind fun v => Rs.ok (⟨k, t, v⟩ : EvG)).bind fun e => (app g.late e).bind fun zs => Rs.ok { g with late := zs }
    else ((((ixI d 2).bind fun t => (ixI d 3).bind fun v => Rs.ok (⟨lenI row, t, v⟩ : LtG)).bind fun z => Rs.ok ([z] : List LtG)).bind fun r => cat row r).bind fun r => (ixS d 1).bind fun k => (putK9 g.lets k r).bind fun zs => Rs.ok { g with lets := zs }
  else Rs.ok g
def n_l_gate_1 (g : Gt) (d : P) : Rs Gt := (gs1 g d).bind fun g1 => (gs2 g1 d).bind fun g2 => gs3 g2 d
def n_l_gate (deeds : List P) : Rs Gt := (foldRs n_l_gate_1 deeds g0).bind fun g => Rs.ok g
section
variable {deeds : List P} {n1 n5 : Nat} {d : P} {X : XP}
abbrev gE' (deeds : List P) (n1 n5 : Nat) (d : P) (g : Gt) (j : Nat × Option D × Option D) : Et := gE deeds n1 n5 g (j.1, some (fe d), j.2.1, j.2.2)
abbrev gLf' (n1 n5 : Nat) (g : Gt) (j : Nat × Option D × Option D) : Ow := gLf n1 n5 g (j.1, none, none, none)
theorem part1 (g : Gt) (j : Nat × Option D × Option D) : Wk (gLf' n1 n5 g j) (gs1 g d) (dIf (dAnd (dTru (dBin eqO (dBin ixO (dVar 6) (dK (.int 0))) (dK (.str "raise")))) (dOr (dTru (dBin isNO (dVar 2) (dK .non))) (dTru (dBin gtO (dBin ixO (dVar 6) (dK (.int 1))) (dVar 2))))) (dSeq (dAsg (dBin ixO (dVar 6) (dK (.int 1))) (gNm 2)) (dSeq (dAsg (dNewD) (gNm 3)) (dForK (fpV 1) (gNm 7) b_l_gate_2))) (dSkip) (gE' deeds n1 n5 d g j)) (QN (gE' deeds n1 n5 d) (gLf' n1 n5)) X := by
  refine ws_last ?_
  unfold gs1
  refine ws_if (L' := fun _ => gLf' n1 n5 g j) ?_ ?_ ?_
  · exact w_and (tag_at rfl) (fun _ o => ⟨rfl, o⟩) (w_or (w_ev (rep := id) (ev_tru (ev_bin (ev_var rfl) ev_k ev_isN) ev_truB)) (fun _ o => ⟨rfl, o⟩) (w_tru (wv (w_bin (wv (w_ixI rfl) fun t => wv (w_unwE (o := g.fl) (ev_var rfl)) fun f => w_ev (rep := fe) ev_gt)) fun b_ => w_ev (rep := id) ev_truB)))
  · refine ws_assoc ?_
    refine ws_set (rep := fe (α := Int)) (L' := fun _ => gLf' n1 n5 g j) (w_ixI rfl) fun t => ?_
    refine ws_assoc ?_
    show Wk _ ((Rs.ok ([] : List (Key × P))).bind fun _ => (cntM g.lets).bind fun zs => Rs.ok { g with fl := some t, cnt := zs }) _ _ _
    refine ws_setN (ct := fun _ : List (Key × P) => Ct.dct []) (L' := fun _ => gLf' n1 n5 g j) (fun st o => by
      have := w_newD (X := X) (η := (gE' deeds n1 n5 d g j).set 2 (some (fe t))) st o
      exact this) fun xs n => ?_
    refine forK_cnt (L := gLf' n1 n5 g j ++ [(n, .c (.dct []))]) (η := [some (fe deeds), some (.cell n1), some (fe t), some (.cell n), some (fe g.fin), some (.cell n5), some (fe d), j.2.1, j.2.2]) (n1 := n1) (n := n) (a := 0) (b := 3) rfl rfl (by show 7 < 9; decide) rfl rfl (by decide) fun zs o7 => ?_
    exact ws_end fun _ o => ⟨rfl, (n, o7, j.2.2), rfl, Own.pick [0, 3, 2] (by decide) o (fun i hi => by simp at hi; show i < 4; omega)⟩
  · refine ws_skip ?_
    exact ws_end fun _ o => ⟨rfl, j, rfl, o⟩
theorem part2 (g : Gt) (j : Nat × Option D × Option D) : Wk (gLf' n1 n5 g j) (gs2 g d) (dIf (dTru (dBin eqO (dBin ixO (dVar 6) (dK (.int 0))) (dK (.str "finish")))) (dAsg (dK (.bl true)) (gNm 4)) (dSkip) (gE' deeds n1 n5 d g j)) (QN (gE' deeds n1 n5 d) (gLf' n1 n5)) X := by
  refine ws_last ?_
  unfold gs2
  refine ws_if (L' := fun _ => gLf' n1 n5 g j) (tag_at rfl) ?_ ?_
  · show Wk _ ((Rs.ok true).bind fun b => Rs.ok { g with fin := b }) _ _ _
    refine ws_set (rep := fe (α := Bool)) (L' := fun _ => gLf' n1 n5 g j) (w_ev (rep := fe) ev_k) fun b => ?_
    exact ws_end fun _ o => ⟨rfl, j, rfl, o⟩
  · refine ws_skip ?_
    exact ws_end fun _ o => ⟨rfl, j, rfl, o⟩
theorem part3 (g : Gt) (j : Nat × Option D × Option D) : Wk (gLf' n1 n5 g j) (gs3 g d) (dIf (dTru (dBin eqO (dBin ixO (dVar 6) (dK (.int 0))) (dK (.str "event")))) (dSeq (dAsg (dGet2 (dVar 1) (dBin ixO (dVar 6) (dK (.int 1))) (dAp lstF (dNil))) (gNm 8)) (dIf (dOr (dAnd (dTru (dBin notNO (dVar 2) (dK .non))) (dTru (dBin ltO (dBin ixO (dVar 6) (dK (.int 2))) (dVar 2)))) (dAnd (dTru (dVar 8)) (dTru (dBin ltO (dBin ixO (dVar 6) (dK (.int 2))) (dBin ixO (dBin ixO (dVar 8) (dUn negO (dK (.int 1)))) (dK (.int 1))))))) (dEx (dBM isLst appendO (dVar 5) (dCons (dAp tupO (dCons (dBin ixO (dVar 6) (dK (.int 1))) (dCons (dBin ixO (dVar 6) (dK (.int 2))) (dCons (dBin ixO (dVar 6) (dK (.int 3))) (dNil))))) (dNil)))) (dPut (dBin addF (dVar 8) (dAp lstF (dCons (dAp tupO (dCons (dAp lenO (dCons (dVar 8) (dNil))) (dCons (dBin ixO (dVar 6) (dK (.int 2))) (dCons (dBin ixO (dVar 6) (dK (.int 3))) (dNil))))) (dNil)))) (dVar 1) (dBin ixO (dVar 6) (dK (.int 1)))))) (dSkip) (gE' deeds n1 n5 d g j)) (QN (gE' deeds n1 n5 d) (gLf' n1 n5)) X := by
  refine ws_last ?_
  unfold gs3
  refine ws_if (L' := fun _ => gLf' n1 n5 g j) (tag_at rfl) ?_ ?_
  · refine ws_assoc ?_
    refine ws_set (rep := fe (α := List LtG)) (L' := fun _ => gLf' n1 n5 g j) (w_get9 (ev_var rfl) (w_ixS rfl) (ev_ap ev_nil (ev_lst [])) (dct_cell (kp := 0) rfl)) fun row => ?_
    refine ws_if (L' := fun _ => gLf' n1 n5 g j) ?_ ?_ ?_
    · exact w_or (w_and (w_ev (rep := id) (ev_tru (ev_bin (ev_var rfl) ev_k ev_notN) ev_truB)) (fun _ o => ⟨rfl, o⟩) (w_tru (wv (w_bin (wv (w_ixI rfl) fun t => wv (w_unwE (o := g.fl) (ev_var rfl)) fun f => w_ev (rep := fe) ev_lt)) fun b_ => w_ev (rep := id) ev_truB))) (fun _ o => ⟨rfl, o⟩) (w_and (w_ev (rep := id) (ev_tru (ev_var rfl) (ev_truL pk_fz))) (fun _ o => ⟨rfl, o⟩) (w_tru (wv (w_bin (wv (w_ixI rfl) fun t => wv (w_bin (wv (w_bin (we (ev_var rfl) (we (ev_un ev_k ev_negI) (w_idx pk_fz)))) fun r => we ev_k (w_ev (rep := fe) (ev_tix (ps := [em r.a, em r.b, em r.c]))))) fun l => w_ev (rep := fe) ev_lt)) fun b_ => w_ev (rep := id) ev_truB)))
    · refine ws_append (kp := 2) (L' := fun _ => gLf' n1 n5 g j) (L2 := fun _ => gLf' n1 n5 g j) (rep := fe (α := EvG)) (v := fun e => e) (ys := fun _ => g.late) ?_ rfl rfl ?_ ?_ ?_
      · exact w_ap (w_cons (wv (w_ixS rfl) fun k => w_cons (wv (w_ixI rfl) fun t => w_cons (wv (w_ixI rfl) fun v => w_nil (w_ev (rep := fe) (ev_tup [em k, em t, em v]))))))
      · exact fun _ => fz_fz
      · exact fun _ => rfl
      · exact fun _ zs => ws_end fun _ o => ⟨rfl, (j.1, j.2.1, some (fe row)), rfl, o⟩
    · refine ws_put9 (η := (gE' deeds n1 n5 d g j).set 8 (some (fe row))) (mk := fun _ => ixS d 1) (L := gLf' n1 n5 g j) (kp := 0) (n := n1) (i := 1) (val := fun r : List LtG => r) ?_ rfl (fun _ => w_ixS (i := 6) rfl) rfl fun zs => ?_
      · have TUP : Wk (gLf' n1 n5 g j) ((ixI d 2).bind fun t => (ixI d 3).bind fun v => Rs.ok (⟨lenI row, t, v⟩ : LtG)) (dAp tupO (dCons (dAp lenO (dCons (dVar 8) (dNil))) (dCons (dBin ixO (dVar 6) (dK (.int 2))) (dCons (dBin ixO (dVar 6) (dK (.int 3))) (dNil)))) ((gE' deeds n1 n5 d g j).set 8 (some (fe row)))) (PV fe fun _ => gLf' n1 n5 g j) X :=
          w_ap (w_cons (we (ev_ap (ev_cons (ev_var rfl) ev_nil) (ev_len pk_fz)) (w_cons (wv (w_ixI rfl) fun t => w_cons (wv (w_ixI rfl) fun v => w_nil (w_ev (rep := fe (α := LtG)) (ev_tup [em (lenI row), em t, em v])))))))
        exact w_bin (we (ev_var rfl) (wv (w_ap (w_cons (wv TUP fun z => w_nil (w_ev (rep := fe (α := List LtG)) (ev_lst [em z]))))) fun r => w_cat pk_fz pk_fz))
      · exact ws_end fun _ o => ⟨rfl, (j.1, j.2.1, some (fe row)), rfl, o⟩
  · refine ws_skip ?_
    exact ws_end fun _ o => ⟨rfl, j, rfl, o⟩
end
end G
end
section
set_option Elab.async false
set_option linter.all false
set_option maxRecDepth 100000
set_option maxHeartbeats 0
namespace G
open PySem L2 M N
theorem wk_QB {σ J J' : Type} {E : σ → J → Et} {Lf : σ → J → Ow} {E' : σ → J' → Et} {Lf' : σ → J' → Ow} {L : Ow} {m : Rs σ} {c : Sr → R (Fl × Et × Sr)} {X : XP} (h : Wk L m c (QN E' Lf') X) (f : J' → J) (hE : ∀ s j, E' s j = E s (f j)) (hL : ∀ s j, Lf' s j = Lf s (f j)) : Wk L m c (QB E Lf) X := fun st o => by
  have h := h st o
  cases m with
  | stuck => trivial
  | exc c fs => exact h
  | ok g =>
    obtain ⟨a, q1, q2, j, q3, q4⟩ := h
    exact ⟨a, q1, .inl q2, f j, by rw [q3, hE], by rw [← hL]; exact q4⟩
theorem lb_l_gate_1 {deeds : List P} {n1 n5 : Nat} {X : XP} (g : Gt) (j : JG) (d : P) : Wk (gLf n1 n5 g j) (n_l_gate_1 g d) (b_l_gate_1 ((gE deeds n1 n5 g j).set 6 (some (fe d)))) (QB (gE deeds n1 n5) (gLf n1 n5)) X := by
  unfold n_l_gate_1
  delta b_l_gate_1
  refine ws_cut (E := gE' deeds n1 n5 d) (Lf := gLf' n1 n5) (part1 g (j.1, j.2.2.1, j.2.2.2)) fun g1 j1 => ?_
  refine ws_cut (E := gE' deeds n1 n5 d) (Lf := gLf' n1 n5) (part2 g1 j1) fun g2 j2 => ?_
  exact wk_QB (E := gE deeds n1 n5) (Lf := gLf n1 n5) (part3 g2 j2) (fun j => (j.1, some (fe d), j.2.1, j.2.2)) (fun _ _ => rfl) (fun _ _ => rfl)
theorem sp_l_gate (deeds : List P) : Sp0 (n_l_gate deeds) F_l_gate [em deeds] := by
  refine sp0_of rfl [some (fe deeds), none, none, none, none, none, none, none, none] rfl ?_
  delta b_l_gate
  refine ws_last ?_
  refine ws_assoc ?_
  show Wk [] ((Rs.ok ([] : List (Key × P))).bind fun _ => (Rs.ok (none : Option Int)).bind fun _ => (Rs.ok ([] : List (Key × P))).bind fun _ => (Rs.ok false).bind fun _ => (Rs.ok ([] : List EvG)).bind fun _ => (foldRs n_l_gate_1 deeds g0).bind fun g => Rs.ok g) _ _ _
  refine ws_setN (ct := fun _ : List (Key × P) => Ct.dct []) (L' := fun _ => []) (fun st o => w_newD (X := XT) (η := [some (fe deeds), none, none, none, none, none, none, none, none]) st o) fun _ n1 => ?_
  refine ws_assoc ?_
  refine ws_set (rep := fun _ : Option Int => fe (none : Option Int)) (L' := fun _ => [(n1, .c (.dct []))]) (fun st o => ⟨_, rfl, rfl, o⟩) fun _ => ?_
  refine ws_assoc ?_
  refine ws_setN (ct := fun _ : List (Key × P) => Ct.dct []) (L' := fun _ => [(n1, .c (.dct []))]) (fun st o => ⟨_, rfl, _, rfl, o.new _⟩) fun _ n3 => ?_
  refine ws_assoc ?_
  refine ws_set (rep := fun _ : Bool => fe false) (L' := fun _ => [(n1, .c (.dct [])), (n3, .c (.dct []))]) (fun st o => ⟨_, rfl, rfl, o⟩) fun _ => ?_
  refine ws_assoc ?_
  refine ws_setN (ct := fun _ : List EvG => Ct.lst []) (L' := fun _ => [(n1, .c (.dct [])), (n3, .c (.dct []))]) (fun st o => ⟨_, rfl, _, rfl, o.new _⟩) fun _ n5 => ?_
  refine ws_assoc ?_
  refine ws_cut (E := gE deeds n1 n5) (Lf := gLf n1 n5) ?_ fun g j => ?_
  · refine w_forP (it := deeds) (ev_var rfl) (src_l fz_fz) ?_
    exact loop_fold (E := gE deeds n1 n5) (Lf := gLf n1 n5) (h := em) (η1 := fun g j d => (gE deeds n1 n5 g j).set 6 (some (fe d))) (fun _ _ _ _ => rfl) (fun g j d => lb_l_gate_1 g j d) deeds g0 (n3, none, none, none)
  have ht := w_tupc (X := XT) (fa := dCons (dVar 1) (dCons (dVar 2) (dCons (dVar 3) (dCons (dVar 4) (dCons (dVar 5) dNil))))) (t := g) (L := gLf n1 n5 g j) (η := gE deeds n1 n5 g j) (ps := [.dct (kvE g.lets), em g.fl, .dct (kvE g.cnt), .bl g.fin, .lst (List.map em g.late)]) (ev_cons (ev_var rfl) (ev_cons (ev_var rfl) (ev_cons (ev_var rfl) (ev_cons (ev_var rfl) (ev_cons (ev_var rfl) ev_nil))))) (fzs_c (fz_dk 0) (fzs_fz (fzs_c (fz_dk 1) (fzs_fz (fzs_c (fz_c 2) fzs_nil))))) rfl
  exact ws_ret (rep := fe (α := Gt)) ht fun _ _ o => qf0 fz_fz o
def n_l_lets (s : Gt) (name : Str) (time : Int) : Rs Bool :=
  (Rs.ok s).bind fun s => (Rs.ok ((kget name s.lets).getD ([] : List LtG))).bind fun row =>
  ((Rs.ok s.fin).bind fun b => if b = true then Rs.ok true else (Rs.ok s.fl.isSome).bind fun b => if b = true then ((unw s.fl).bind fun f => Rs.ok (decide (time < f))).bind fun g_ => Rs.ok g_ else Rs.ok false).bind fun b => if b = true then Rs.ok false else
  (Rs.ok (decide (lenI row = 0))).bind fun b => if b = true then Rs.ok true else ((N.idx row (-1)).bind fun r => Rs.ok r.b).bind fun t => Rs.ok (decide (t ≤ time))
theorem sp_l_lets (s : Gt) (name : Str) (time : Int) : Sp0 (n_l_lets s name time) F_l_lets [em s, em name, em time] := by
  refine sp0_of rfl [some (fe s), some (fe name), some (fe time), none, none, none, none, none, none] rfl ?_
  unfold n_l_lets
  delta b_l_lets
  refine ws_last ?_
  refine ws_assoc ?_
  refine ws_unp (rep := fe (α := Gt)) (L' := fun _ => []) (ps := fun s => [.dct (kvE s.lets), em s.fl, .dct (kvE s.cnt), .bl s.fin, .lst (List.map em s.late)]) (η' := fun g => [some (fe s), some (fe name), some (fe time), none, some (.fz (.dct (kvE g.lets))), some (fe g.fl), some (.fz (.dct (kvE g.cnt))), some (fe g.fin), some (fe g.late)]) (w_ev (rep := fe) (ev_var rfl)) (fun _ => pk_fz) (fun _ _ => rfl) fun s => ?_
  refine ws_assoc ?_
  refine ws_set (rep := fe (α := List LtG)) (L' := fun _ => []) (w_ev (rep := fe) (ev_get9 (ev_var rfl) (ev_var rfl) (ev_ap ev_nil (ev_lst [])) dct_fz)) fun row => ?_
  refine ws_assoc ?_
  refine ws_if (L' := fun _ => []) ?_ ?_ ?_
  · exact w_or (w_ev (rep := id) (ev_tru (ev_var rfl) ev_truB)) (fun _ o => ⟨rfl, o⟩) (w_and (w_ev (rep := id) (ev_tru (ev_bin (ev_var rfl) ev_k ev_notN) ev_truB)) (fun _ o => ⟨rfl, o⟩) (w_tru (wv (w_bin (we (ev_var rfl) (wv (w_unwE (o := s.fl) (ev_var rfl)) fun f => w_ev (rep := fe) ev_lt))) fun b_ => w_ev (rep := id) ev_truB)))
  · exact ws_ret0 ev_k fun _ o => qf0 fz_fz o
  refine ws_skip ?_
  refine ws_ret (rep := fe (α := Bool)) (L' := fun _ => []) ?_ fun _ _ o => qf0 fz_fz o
  exact w_orV (w_ev (rep := fe) (ev_bin (ev_ap (ev_cons (ev_var rfl) ev_nil) (ev_len pk_fz)) ev_k (ev_eq (α := Int) pk_fz pk_fz))) (fun _ o => ⟨rfl, o⟩) (w_bin (we (ev_var rfl) (wv (w_bin (wv (w_bin (we (ev_var rfl) (we (ev_un ev_k ev_negI) (w_idx pk_fz)))) fun r => we ev_k (w_ev (rep := fe) (ev_tix (ps := [em r.a, em r.b, em r.c]))))) fun t => w_ev (rep := fe) ev_ge)))
end G
end
section
set_option Elab.async false
set_option linter.all false
set_option maxRecDepth 100000
set_option maxHeartbeats 0
namespace G
open PySem L2 M N
theorem wk_retB {σ' β γ : Type} {L : Ow} {s : σ'} {m : Rs β} {c : Sr → R γ} {Q : β × σ' → γ → Prop} {X : XP} (h : Wk L m c (fun b a => Q (b, s) a) X) : Wk L (m.bind fun b => Rs.ok (b, s)) c Q X := fun st o => by
  have h := h st o
  cases m with
  | stuck => trivial
  | exc c fs => exact h
  | ok v => exact h
def toldM (g : Gt) (deed : P) : Rs Bool := (pixP deed 1).bind fun k => (ixI deed 2).bind fun t => calm (n_Gate_lets_in g k t)
def badM (s : Gt) (deed : P) (told : Bool) : Rs Bool :=
  ((((isiM "bool" (em told)).bind fun g_ => Rs.ok g_).bind fun b => Rs.ok !b).bind fun b => if b = true then Rs.ok true else
    ((((ixS deed 1).bind fun k => (ixI deed 2).bind fun t => calm (n_l_lets s k t)).bind fun l => Rs.ok (!decide (told = l))).bind fun g_ => Rs.ok g_))
def tk1 (g s : Gt) (deed : P) : Rs (Bool ⊕ Unit) := (tagM deed "event").bind fun b => if b = true then
    (toldM g deed).bind fun told => (badM s deed told).bind fun bad => if bad = true then Rs.ok (.inr ()) else Rs.ok (.inl told)
  else Rs.ok (.inl false)
def tk2 (g : Gt) (deed : P) (straight : Bool) : Rs (P × Gt) :=
  ((Rs.ok straight).bind fun b => if b = true then tagM deed "event" else Rs.ok false).bind fun b => if b = true then
    ((pixP deed 1).bind fun k => (ixI deed 2).bind fun t => (ixI deed 3).bind fun v => calm (n_Gate_event g k t v)).bind fun r => Rs.ok (em r.1, r.2)
  else ((Rs.ok straight).bind fun b => if b = true then tagM deed "raise" else Rs.ok false).bind fun b => if b = true then
    ((ixI deed 1).bind fun t => calm (n_Gate_raise_floor g t)).bind fun r => Rs.ok (em r.1, r.2)
  else (calm (n_Gate_take g deed)).bind fun r => Rs.ok r
def tk3 (s : Gt) (deed : P) (told : Bool) (found : P) : Rs Bool :=
  (tagM deed "raise").bind fun b => if b = true then
    (isiM "bool" found).bind fun b => if b = true then ((Rs.ok s.fl.isNone).bind fun b => if b = true then Rs.ok true else (ixI deed 1).bind fun t => (unw s.fl).bind fun f => Rs.ok (decide (f < t))).bind fun c => eqM found (em c) else Rs.ok false
  else (Rs.ok !told).bind fun b => if b = true then Rs.ok found.isNon else
  (((ixS deed 1).bind fun k => Rs.ok ((kget k s.lets).getD ([] : List LtG))).bind fun row => Rs.ok (lenI row)).bind fun n =>
  (isiM "int" found).bind fun b => if b = true then ((isiM "bool" found).bind fun b => Rs.ok !b).bind fun b => if b = true then eqM found (em n) else Rs.ok false else Rs.ok false
def n_l_taken (g s : Gt) (deed : P) (straight : Bool) : Rs (Bool × Gt) :=
  (Rs.ok s).bind fun s' => (Rs.ok false).bind fun _ => (tk1 g s deed).bindL (fun told => (tk2 g deed straight).bind fun r => (tk3 s' deed told r.1).bind fun b => Rs.ok (b, r.2)) fun _ => (false, g)
def tE (s : Gt) (deed : P) (straight : Bool) (s' : Gt) (told : Bool) (o5 o11 : Option D) : Et := [some (.cell 0), some (fe s), some (fe deed), some (fe straight), some (fe told), o5, some (.fz (.dct (kvE s'.lets))), some (fe s'.fl), some (.fz (.dct (kvE s'.cnt))), some (fe s'.fin), some (fe s'.late), o11]
section
variable {mm : Nat} {g s s' : Gt} {deed : P} {straight told : Bool} {X : XP}
theorem w_told {mm : Nat} {g : Gt} {deed : P} {η : Et} {X : XP} (h0 : η[0]? = some (some (.cell 0))) (h2 : η[2]? = some (some (fe deed))) : Wk (gL mm g) (toldM g deed) (dMeth "lets_in" mt_lets_in (dVar 0) (dCons (dBin ixO (dVar 2) (dK (.int 1))) (dCons (dBin ixO (dVar 2) (dK (.int 2))) (dNil))) η) (PV fe fun _ => gL mm g) X := by
  unfold toldM
  refine w_methOb (kp := 1) (fs := gtF g) rfl (ev_var h0) (by kernel_rfl) rfl ?_
  exact w_cons (wv (w_bin (we (ev_var h2) (we ev_k (w_pix pk_fz)))) fun k => w_cons (wv (w_ixI h2) fun t => w_nil (wk_calm (X' := XT) (w_callR (as := [k, em t]) 1 (sp_Gate_lets_in g k t) rfl rfl (gt_dep g) (fun _ _ => trivial)))))
theorem tk_1 (o5 : Option D) : Wk (gL mm g) (tk1 g s deed) (dIf (dTru (dBin eqO (dBin ixO (dVar 2) (dK (.int 0))) (dK (.str "event")))) (dSeq (dAsg (dMeth "lets_in" mt_lets_in (dVar 0) (dCons (dBin ixO (dVar 2) (dK (.int 1))) (dCons (dBin ixO (dVar 2) (dK (.int 2))) (dNil)))) (gNm 4)) (dIf (dOr (dNot (dTru (dUn (isiO "bool") (dVar 4)))) (dTru (dBin neO (dVar 4) (dCall F_l_lets (dCons (dVar 1) (dCons (dBin ixO (dVar 2) (dK (.int 1))) (dCons (dBin ixO (dVar 2) (dK (.int 2))) (dNil)))))))) (dRet (dK (.bl false))) (dSkip))) (dSkip) (tE s deed straight s' false none none)) (QL (fun told (_ : Unit) => tE s deed straight s' told none none) (fun _ _ => gL mm g) (fun _ r => QFO gtT mm (false, g) r)) X := by
  refine ws_last ?_
  unfold tk1
  refine ws_if (L' := fun _ => gL mm g) (tag_at rfl) ?_ ?_
  · refine ws_assoc ?_
    refine ws_set (rep := fe (α := Bool)) (L' := fun _ => gL mm g) (w_told rfl rfl) fun told => ?_
    refine ws_if (L' := fun _ => gL mm g) ?_ ?_ ?_
    · exact w_or (w_not (wv (w_tru (wv (w_un (we (ev_var rfl) (w_isi pk_fz))) fun g_ => w_ev (rep := id) ev_truB)) fun b_ => w_ev (rep := id) (fun _ _ => rfl))) (fun _ o => ⟨rfl, o⟩) (w_tru (wv (w_bin (we (ev_var rfl) (wv (w_call (w_cons (we (ev_var rfl) (w_cons (wv (w_ixS rfl) fun k => w_cons (wv (w_ixI rfl) fun t => w_nil (wk_calm (X' := XT) (w_call0 (sp_l_lets s k t) rfl (fun _ _ => trivial))))))))) fun l => w_ev (rep := fe) (ev_ne pk_fz pk_fz)))) fun g_ => w_ev (rep := id) ev_truB))
    · exact ws_ret0 ev_k fun _ o => ⟨qfo o rfl, _, rfl⟩
    · refine ws_skip ?_
      exact ws_end fun _ o => ⟨rfl, (), rfl, o⟩
  · refine ws_skip ?_
    exact ws_end fun _ o => ⟨rfl, (), rfl, o⟩
theorem tk_2 : Wk (gL mm g) (tk2 g deed straight) (dIf (dAnd (dTru (dVar 3)) (dTru (dBin eqO (dBin ixO (dVar 2) (dK (.int 0))) (dK (.str "event"))))) (dAsg (dMeth "event" mt_event (dVar 0) (dCons (dBin ixO (dVar 2) (dK (.int 1))) (dCons (dBin ixO (dVar 2) (dK (.int 2))) (dCons (dBin ixO (dVar 2) (dK (.int 3))) (dNil))))) (gNm 11)) (dIf (dAnd (dTru (dVar 3)) (dTru (dBin eqO (dBin ixO (dVar 2) (dK (.int 0))) (dK (.str "raise"))))) (dAsg (dMeth "raise_floor" mt_raise_floor (dVar 0) (dCons (dBin ixO (dVar 2) (dK (.int 1))) (dNil))) (gNm 11)) (dAsg (dMeth "take" mt_take (dVar 0) (dCons (dVar 2) (dNil))) (gNm 11))) (tE s deed straight s' told none none)) (QN (fun (r : P × Gt) (_ : Unit) => tE s deed straight s' told none (some (fe r.1))) (fun r _ => gL mm r.2)) X := by
  refine ws_last ?_
  unfold tk2
  refine ws_if (L' := fun _ => gL mm g) ?_ ?_ ?_
  · exact w_and (w_ev (rep := id) (ev_tru (ev_var rfl) ev_truB)) (fun _ o => ⟨rfl, o⟩) (tag_at rfl)
  · refine ws_set (rep := fun r : Option Int × Gt => fe r.1) (L' := fun r => gL mm r.2) ?_ fun r => ?_
    · refine w_methOb (kp := 1) (fs := gtF g) rfl (ev_var rfl) (by kernel_rfl) rfl ?_
      exact w_cons (wv (w_bin (we (ev_var rfl) (we ev_k (w_pix pk_fz)))) fun k => w_cons (wv (w_ixI rfl) fun t => w_cons (wv (w_ixI rfl) fun v => w_nil (wk_calm (X' := XT) (w_callO (as := [k, em t, em v]) 1 (sp_Gate_event g k t v) rfl rfl (gt_dep g) gt_dep (fun _ _ => trivial))))))
    · exact ws_end fun _ o => ⟨rfl, (), rfl, o⟩
  · refine ws_if (L' := fun _ => gL mm g) ?_ ?_ ?_
    · exact w_and (w_ev (rep := id) (ev_tru (ev_var rfl) ev_truB)) (fun _ o => ⟨rfl, o⟩) (tag_at rfl)
    · refine ws_set (rep := fun r : Bool × Gt => fe r.1) (L' := fun r => gL mm r.2) ?_ fun r => ?_
      · refine w_methOb (kp := 1) (fs := gtF g) rfl (ev_var rfl) (by kernel_rfl) rfl ?_
        exact w_cons (wv (w_ixI rfl) fun t => w_nil (wk_calm (X' := XT) (w_callO (as := [em t]) 1 (sp_Gate_raise_floor g t) rfl rfl (gt_dep g) gt_dep (fun _ _ => trivial))))
      · exact ws_end fun _ o => ⟨rfl, (), rfl, o⟩
    · refine ws_set (rep := fun r : P × Gt => fe r.1) (L' := fun r => gL mm r.2) ?_ fun r => ?_
      · refine w_methOb (kp := 1) (fs := gtF g) rfl (ev_var rfl) (by kernel_rfl) rfl ?_
        exact w_cons (we (ev_var rfl) (w_nil (wk_calm (X' := XT) (w_callO (as := [deed]) 1 (sp_Gate_take g deed) rfl rfl (gt_dep g) gt_dep (fun _ _ => trivial)))))
      · exact ws_end fun _ o => ⟨rfl, (), rfl, o⟩
end
theorem sp_l_taken (g s : Gt) (deed : P) (straight : Bool) : SpO gtT (gtT g) (n_l_taken g s deed straight) F_l_taken [em s, deed, em straight] := by
  refine spo_of0 (gt_dep g) gt_dep rfl [some (.cell 0), some (fe s), some (fe deed), some (fe straight), none, none, none, none, none, none, none, none] rfl fun mm => ?_
  unfold n_l_taken
  delta b_l_taken
  refine ws_last ?_
  refine ws_assoc ?_
  refine ws_unp (rep := fe (α := Gt)) (L' := fun _ => gL mm g) (ps := fun s => [.dct (kvE s.lets), em s.fl, .dct (kvE s.cnt), .bl s.fin, .lst (List.map em s.late)]) (η' := fun s' => [some (.cell 0), some (fe s), some (fe deed), some (fe straight), none, none, some (.fz (.dct (kvE s'.lets))), some (fe s'.fl), some (.fz (.dct (kvE s'.cnt))), some (fe s'.fin), some (fe s'.late), none]) (w_ev (rep := fe) (ev_var rfl)) (fun _ => pk_fz) (fun _ _ => rfl) fun s' => ?_
  refine ws_assoc ?_
  refine ws_set (rep := fun _ : Bool => fe false) (L' := fun _ => gL mm g) (fun st o => ⟨_, rfl, rfl, o⟩) fun f0 => ?_
  refine ws_assoc ?_
  refine ws_cutL (E := fun told (_ : Unit) => tE s deed straight s' told none none) (Lf := fun _ _ => gL mm g) (Qr := fun _ r => QFO gtT mm (false, g) r) (tk_1 none) (fun told j => ?_) (fun _ _ h _ => h)
  refine ws_assoc ?_
  refine ws_cut (E := fun (r : P × Gt) (_ : Unit) => tE s deed straight s' told none (some (fe r.1))) (Lf := fun r _ => gL mm r.2) tk_2 fun r j => ?_
  refine wk_retB (s := r.2) ?_
  unfold tk3
  refine ws_assoc ?_
  refine ws_if (L' := fun _ => gL mm r.2) (tag_at rfl) ?_ ?_
  · refine ws_ret (rep := fe (α := Bool)) (L' := fun _ => gL mm r.2) ?_ fun b st o => qfo (tr := gtT) (s := r.2) o rfl
    exact w_andV (w_un (we (ev_var rfl) (w_isi pk_fz))) (fun _ o => ⟨rfl, o⟩) (w_bin (we (ev_var rfl) (wv (w_orV (w_ev (rep := fe) (ev_bin (ev_var rfl) ev_k ev_isN)) (fun _ o => ⟨rfl, o⟩) (w_bin (wv (w_ixI rfl) fun t => wv (w_unwE (o := s'.fl) (ev_var rfl)) fun f => w_ev (rep := fe) ev_gt))) fun c => w_eqM pk_fz pk_fz)))
  refine ws_skip ?_
  refine ws_assoc ?_
  refine ws_if (L' := fun _ => gL mm r.2) (w_ev (rep := id) (ev_not (ev_tru (ev_var rfl) ev_truB))) ?_ ?_
  · exact ws_ret0 (ev_bin (ev_var rfl) ev_k ev_isNP) fun st o => qfo (tr := gtT) (s := r.2) o rfl
  refine ws_skip ?_
  refine ws_assoc ?_
  refine ws_set (rep := fe (α := Int)) (L' := fun _ => gL mm r.2) ?_ fun n => ?_
  · exact w_ap (w_cons (wv (w_get9 (ev_var rfl) (w_ixS rfl) (ev_ap ev_nil (ev_lst [])) dct_fz) fun row => w_nil (w_ev (rep := fe) (ev_len pk_fz))))
  refine ws_ret (rep := fe (α := Bool)) (L' := fun _ => gL mm r.2) ?_ fun b st o => qfo (tr := gtT) (s := r.2) o rfl
  exact w_andV (w_un (we (ev_var rfl) (w_isi pk_fz))) (fun _ o => ⟨rfl, o⟩) (w_andV (L' := fun _ => gL mm r.2) (w_notV (w_un (we (ev_var rfl) (w_isi pk_fz))) (fun _ _ o => ⟨rfl, o⟩)) (fun _ o => ⟨rfl, o⟩) (w_bin (we (ev_var rfl) (we (ev_var rfl) (w_eqM pk_fz pk_fz)))))
end G
end
section
set_option Elab.async false
set_option linter.all false
set_option maxRecDepth 100000
set_option maxHeartbeats 0
namespace G
open PySem L2 M N
section
variable {L : Ow} {X X' : XP} {η : Et}
theorem wk_calm2 {α γ : Type} {m : Rs γ} {c : Sr → R α} {Q : γ → α → Prop} (h : Wk L (calm m) c Q X') : Wk L (calm m) c Q X := fun st o => by
  have h := h st o
  cases m with
  | stuck => trivial
  | exc c fs => trivial
  | ok v => exact h
/-- a method of the gate that only reads it; nothing raised is looked at -/
theorem g_methRc {τ : Type} [Em τ] {kp n : Nat} {g : Gt} {nm : Str} {tab : List (Str × DF)} {fo : DE} {fa : DA} {F : DF} {m : Rs τ} {as : List P} (h0 : L[kp]? = some (n, gtT g)) (hf : Ev L (fo η) (.cell n)) (hn : (gtF g).lookup nm = none) (hF : look1 "Gate" tab = some F) (ha : Ev L (fa η) (as.map D.fz)) (h : SpR (gtT g) m F as) : Wk L (calm m) (dMeth nm tab fo fa η) (PV fe fun _ => L) X :=
  w_methOb h0 hf hn hF (we ha (wk_calm (X' := XT) (w_callR kp h rfl h0 (gt_dep g) (fun _ _ => trivial))))
theorem g_methC {τ : Type} {rt : τ → Tr} {kp n : Nat} {g : Gt} {nm : Str} {tab : List (Str × DF)} {fo : DE} {fa : DA} {F : DF} {m : Rs τ} {as : List P} (h0 : L[kp]? = some (n, gtT g)) (hf : Ev L (fo η) (.cell n)) (hn : (gtF g).lookup nm = none) (hF : look1 "Gate" tab = some F) (ha : Ev L (fa η) (as.map D.fz)) (d2 : ∀ s, Dep 2 (rt s)) (h : SpRC rt (gtT g) m F as) : Wk L (calm m) (dMeth nm tab fo fa η) (PT rt fun _ => L) X :=
  w_methOb h0 hf hn hF (we ha (wk_calm (X' := XT) (w_callRC kp h rfl h0 (gt_dep g) d2 (fun _ _ => trivial))))
theorem g_propR {τ : Type} [Em τ] {kp n : Nat} {g : Gt} {tab : List (Str × DF)} {fo : DE} {F : DF} {m : Rs τ} (h0 : L[kp]? = some (n, gtT g)) (hf : Ev L (fo η) (.cell n)) (hF : look1 "Gate" tab = some F) (h : SpR (gtT g) m F []) : Wk L (calm m) (dProp tab fo η) (PV fe fun _ => L) X :=
  wk_calm2 (w_propOb h0 hf hF (w_callR (as := []) (X := XT) kp h rfl h0 (gt_dep g) (fun _ _ => trivial)))
theorem map_keyD {α : Type} [Em α] (ys : List (T2 Str α)) : ((kvE ys).map fun kv => keyD kv.1) = List.map em (ys.map (·.a)) := by
  rw [keysD_kv, List.map_map]; rfl
/-- sorted(list(letters)), the letters being data; the list between is garbage -/
theorem w_sortK {α : Type} [Em α] {fo : DE} {ys : List (T2 Str α)} {L' : Ow} (h : Ev L (fo η) (.fz (.dct (kvE ys)))) (hd : ∀ st ct, Own (L ++ [(st.length, .c ct)]) (st ++ [ct]) → Own L' (st ++ [ct])) : Wk L (.ok (srtS (ys.map (·.a)))) (dAp sortSF (dCons (dAp listKP (dCons fo dNil)) dNil) η) (PV fe fun _ => L') X := fun st o => by
  have e2 : dAp listKP (dCons fo dNil) η st = .ok (.cell st.length, st ++ [.lst (List.map em (ys.map (·.a)))]) := by
    refine e_ap (e_cons (h st o) e_nil) ?_
    unfold listKP
    dsimp only
    show R.ok (D.cell st.length, st ++ [Ct.lst ((kvE ys).map fun kv => keyD kv.1)]) = _
    rw [map_keyD]
  have hat : (st ++ [Ct.lst (List.map em (ys.map (·.a)))])[st.length]? = some (.lst (List.map em (ys.map (·.a)))) := by simp
  have e3 : dAp sortSF (dCons (dAp listKP (dCons fo dNil)) dNil) η st = .ok (fe (srtS (ys.map (·.a))), st ++ [Ct.lst (List.map em (ys.map (·.a)))]) := by
    refine e_ap (e_cons e2 e_nil) ?_
    have ep : peek (st ++ [Ct.lst (List.map em (ys.map (·.a)))]) (.cell st.length) = some (.lst (List.map em (ys.map (·.a)))) := by
      unfold peek
      dsimp only
      rw [hat]
    unfold sortSF
    dsimp only
    rw [ep]
    show (match M.strsP (List.map em (ys.map (·.a))) with | some ss => _ | none => _) = _
    rw [strsP_em9]
    rfl
  exact ⟨_, e3, rfl, hd st _ (o.new _)⟩
end
def n_l_asked_2 (g s : Gt) (_ : Unit) (name : Str) : Rs (LC Unit Bool) :=
  (calm (n_Gate_letters_of g name)).bind fun row =>
  ((Rs.ok (!decide (row = (kget name s.lets).getD ([] : List LtG)))).bind fun b => if b = true then Rs.ok true else ((calm (n_Gate_count_of g name)).bind fun c => Rs.ok (!decide (c = lenI row))).bind fun g_ => Rs.ok g_).bind fun b => if b = true then Rs.ok (.rt false) else
  (Rs.ok (⟨lenI row, 0, 0⟩ : LtG)).bind fun z => (app row z).bind fun _ => Rs.ok (.nx ())
def n_l_asked_1 (g s : Gt) (names : Tu Str) (_ : Unit) (_ : Int) : Rs (LC Unit Bool) :=
  (calm (n_Gate_known g)).bind fun known => (calm (n_Gate_late g)).bind fun rows =>
  ((((Rs.ok (srtS (s.lets.map (·.a)))).bind fun w => neM (em known) (em w)).bind fun g_ => Rs.ok g_).bind fun b => if b = true then Rs.ok true else (neM (em rows) (em s.late)).bind fun g_ => Rs.ok g_).bind fun b => if b = true then Rs.ok (.rt false) else
  (Rs.ok ("zz" : Str)).bind fun z => (app known z).bind fun _ => (Rs.ok (⟨"zz", 0, 0⟩ : EvG)).bind fun z => (app rows z).bind fun _ =>
  ((cat names.l (["zzz"] : List Str)).bind fun ns => loopRs (n_l_asked_2 g s) ns ()).bindL (fun _ => Rs.ok (.nx ())) LC.rt
def n_l_asked (g s : Gt) (names : Tu Str) : Rs Bool :=
  (Rs.ok s).bind fun s =>
  ((((calm (n_Gate_floor g)).bind fun f => Rs.ok (!decide (f = s.fl))).bind fun g_ => Rs.ok g_).bind fun b => if b = true then Rs.ok true else
    ((((calm (n_Gate_finished g)).bind fun f => isiM "bool" (em f)).bind fun g_ => Rs.ok g_).bind fun b => Rs.ok !b).bind fun b => if b = true then Rs.ok true else
    ((calm (n_Gate_finished g)).bind fun f => Rs.ok (!decide (f = s.fin))).bind fun g_ => Rs.ok g_).bind fun b => if b = true then Rs.ok false else
  ((rng1 2).bind fun xs => loopRs (n_l_asked_1 g s names) xs ()).bindL (fun _ => Rs.ok true) (fun v => v)
abbrev aE (s0 s : Gt) (names : Tu Str) (o3 o9 o10 o11 o12 : Option D) : Et := [some (.cell 0), some (fe s0), some (fe names), o3, some (.fz (.dct (kvE s.lets))), some (fe s.fl), some (.fz (.dct (kvE s.cnt))), some (fe s.fin), some (fe s.late), o9, o10, o11, o12]
abbrev aL (mm : Nat) (g : Gt) (n9 n10 : Nat) (known2 : List Str) (rows2 : List EvG) : Ow := [(mm, .base 1), (0, gtT g), (n9, .c (.lst (List.map em known2))), (n10, .c (.lst (List.map em rows2)))]
abbrev noX : XP := fun _ _ => False
theorem lb_l_asked_2 {mm : Nat} {g s0 s : Gt} {names : Tu Str} {n9 n10 : Nat} {known2 : List Str} {rows2 : List EvG} {o3 : Option D} : ∀ (u : Unit) (j : Option D × Option D) (name : Str), Wk (aL mm g n9 n10 known2 rows2) (n_l_asked_2 g s u name) (b_l_asked_2 (aE s0 s names o3 (some (.cell n9)) (some (.cell n10)) (some (fe name)) j.2)) (QC (fun (u : Unit) (j : Option D × Option D) => aE s0 s names o3 (some (.cell n9)) (some (.cell n10)) j.1 j.2) (fun _ _ => aL mm g n9 n10 known2 rows2) (fun b r => QFR (gtT g) mm b r)) noX := fun u j name => by
  unfold n_l_asked_2
  delta b_l_asked_2
  refine ws_last ?_
  refine ws_assoc ?_
  refine ws_setN (ct := fun xs : List LtG => Ct.lst (List.map em xs)) (L' := fun _ => aL mm g n9 n10 known2 rows2) (fun st o => g_methC (X := noX) (rt := lsT (α := LtG)) (kp := 1) (as := [em name]) rfl (ev_var rfl) (by kernel_rfl) rfl (ev_cons (ev_var rfl) ev_nil) ls_dep (sp_Gate_letters_of_n g name) st o) fun row n12 => ?_
  refine ws_assoc ?_
  refine ws_if (L' := fun _ => aL mm g n9 n10 known2 rows2 ++ [(n12, .c (.lst (List.map em row)))]) ?_ ?_ ?_
  · exact w_or (w_ev (rep := id) (ev_tru (ev_bin (ev_var rfl) (ev_get9 (ev_var rfl) (ev_var rfl) (ev_ap ev_nil (ev_lst [])) dct_fz) (ev_ne (α := List LtG) (pk_lst 4) pk_fz)) ev_truB)) (fun _ o => ⟨rfl, o⟩) (w_tru (wv (w_bin (wv (g_methRc (kp := 1) (as := [em name]) rfl (ev_var rfl) (by kernel_rfl) rfl (ev_cons (ev_var rfl) ev_nil) (sp_Gate_count_of g name)) fun c => we (ev_ap (ev_cons (ev_var rfl) ev_nil) (ev_len (pk_lst 4))) (w_ev (rep := fe) (ev_ne (α := Int) pk_fz pk_fz)))) fun g_ => w_ev (rep := id) ev_truB))
  · exact ws_ret0 ev_k fun _ o => ⟨qfr o rfl, _, rfl⟩
  refine ws_skip ?_
  refine ws_append (rep := fe (α := LtG)) (L' := fun _ => aL mm g n9 n10 known2 rows2 ++ [(n12, .c (.lst (List.map em row)))]) (v := fun z => z) (ys := fun _ => row) (kp := 4) ?_ rfl rfl (fun _ => fz_fz) (fun _ => rfl) fun z zs => ?_
  · exact w_ev (rep := fe) (ev_ap (ev_cons (ev_ap (ev_cons (ev_var rfl) ev_nil) (ev_len (pk_lst 4))) (ev_cons ev_k (ev_cons ev_k ev_nil))) (ev_tup [em (lenI row), .int 0, .int 0]))
  exact ws_end fun _ o => ⟨.inl rfl, (some (fe name), some (.cell n12)), rfl, Own.pickB [0, 1, 2, 3] (by decide) o (fun i hi => by simp at hi ⊢; omega)⟩
theorem lb_l_asked_1 {mm : Nat} {g s0 s : Gt} {names : Tu Str} : ∀ (u : Unit) (j : Option D × Option D × Option D × Option D × Option D) (x : Int), Wk (gL mm g) (n_l_asked_1 g s names u x) (b_l_asked_1 (aE s0 s names (some (fe x)) j.2.1 j.2.2.1 j.2.2.2.1 j.2.2.2.2)) (QC (fun (u : Unit) (j : Option D × Option D × Option D × Option D × Option D) => aE s0 s names j.1 j.2.1 j.2.2.1 j.2.2.2.1 j.2.2.2.2) (fun _ _ => gL mm g) (fun b r => QFR (gtT g) mm b r)) noX := fun u j x => by
  unfold n_l_asked_1
  delta b_l_asked_1
  refine ws_last ?_
  refine ws_assoc ?_
  refine ws_setN (ct := fun xs : List Str => Ct.lst (List.map em xs)) (L' := fun _ => gL mm g) (fun st o => g_methC (X := noX) (rt := lsT (α := Str)) (kp := 1) (as := []) rfl (ev_var rfl) (by kernel_rfl) rfl ev_nil ls_dep (sp_Gate_known_n g) st o) fun known n9 => ?_
  refine ws_assoc ?_
  refine ws_setN (ct := fun xs : List EvG => Ct.lst (List.map em xs)) (L' := fun _ => gL mm g ++ [(n9, .c (.lst (List.map em known)))]) (fun st o => g_methC (X := noX) (rt := lsT (α := EvG)) (kp := 1) (as := []) rfl (ev_var rfl) (by kernel_rfl) rfl ev_nil ls_dep (sp_Gate_late_n g) st o) fun rows n10 => ?_
  refine ws_assoc ?_
  refine ws_if (L' := fun _ => aL mm g n9 n10 known rows) ?_ ?_ ?_
  · exact w_or (w_tru (wv (w_bin (we (ev_var rfl) (wv (w_sortK (L' := aL mm g n9 n10 known rows) (ev_var rfl) (fun st ct o => Own.pickB [0, 1, 2, 3] (by decide) o (fun i hi => by simp at hi ⊢; omega))) fun w => w_neM (pk_lst 2) pk_fz))) fun g_ => w_ev (rep := id) ev_truB)) (fun _ o => ⟨rfl, o⟩) (w_tru (wv (w_bin (we (ev_var rfl) (we (ev_var rfl) (w_neM (pk_lst 3) pk_fz)))) fun g_ => w_ev (rep := id) ev_truB))
  · exact ws_ret0 ev_k fun _ o => ⟨qfr o rfl, _, rfl⟩
  refine ws_skip ?_
  refine ws_assoc ?_
  refine ws_append (rep := fe (α := Str)) (L' := fun _ => aL mm g n9 n10 known rows) (v := fun z => z) (ys := fun _ => known) (kp := 2) (w_ev (rep := fe) ev_k) rfl rfl (fun _ => fz_fz) (fun _ => rfl) fun z known2 => ?_
  refine ws_assoc ?_
  refine ws_append (rep := fe (α := EvG)) (L' := fun _ => aL mm g n9 n10 known2 rows) (v := fun z => z) (ys := fun _ => rows) (kp := 3) (w_ev (rep := fe) (ev_ap (ev_cons ev_k (ev_cons ev_k (ev_cons ev_k ev_nil))) (ev_tup [.str "zz", .int 0, .int 0]))) rfl rfl (fun _ => fz_fz) (fun _ => rfl) fun z2 rows2 => ?_
  refine ws_cutL (J := Option D × Option D) (E := fun (_ : Unit) (j : Option D × Option D) => aE s0 s names (some (fe x)) (some (.cell n9)) (some (.cell n10)) j.1 j.2) (Lf := fun _ _ => aL mm g n9 n10 known2 rows2) (Qr := fun b r => QFR (gtT g) mm b r) (kr := LC.rt) ?_ (fun u_ j_ => ?_) (fun _ _ h d => ⟨h, d⟩)
  · refine w_for (h := em) (rep := fe (α := List Str)) (it := fun ns => ns) (L1 := fun _ => aL mm g n9 n10 known2 rows2) (L2 := fun _ => aL mm g n9 n10 known2 rows2) ?_ (fun _ => src_l fz_fz) fun ns => ?_
    · exact w_bin (we (ev_ap (ev_cons (ev_var rfl) ev_nil) (ev_listT pk_fz)) (we (ev_ap (ev_cons ev_k ev_nil) (ev_lst [.str "zzz"])) (w_cat pk_fz pk_fz)))
    exact loop_lc (h := em) (E := fun (_ : Unit) (j : Option D × Option D) => aE s0 s names (some (fe x)) (some (.cell n9)) (some (.cell n10)) j.1 j.2) (Lf := fun _ _ => aL mm g n9 n10 known2 rows2) (fun _ _ _ _ => rfl) lb_l_asked_2 ns () (j.2.2.2.1, j.2.2.2.2)
  exact ws_end fun _ o => ⟨.inl rfl, (some (fe x), some (.cell n9), some (.cell n10), j_.1, j_.2), rfl, Own.pickB [0, 1] (by decide) o (fun i hi => by simp at hi ⊢; omega)⟩
theorem sp_l_asked (g s : Gt) (names : Tu Str) : SpR (gtT g) (n_l_asked g s names) F_l_asked [em s, em names] := by
  refine spr_of0 (gt_dep g) rfl [some (.cell 0), some (fe s), some (fe names), none, none, none, none, none, none, none, none, none, none] rfl fun mm => ?_
  unfold n_l_asked
  delta b_l_asked
  refine ws_last ?_
  refine ws_assoc ?_
  refine ws_unp (rep := fe (α := Gt)) (L' := fun _ => gL mm g) (ps := fun s => [.dct (kvE s.lets), em s.fl, .dct (kvE s.cnt), .bl s.fin, .lst (List.map em s.late)]) (η' := fun s' => aE s s' names none none none none none) (w_ev (rep := fe) (ev_var rfl)) (fun _ => pk_fz) (fun _ _ => rfl) fun s' => ?_
  refine ws_assoc ?_
  refine ws_if (L' := fun _ => gL mm g) ?_ ?_ ?_
  · exact w_or (w_tru (wv (w_bin (wv (g_propR (kp := 1) rfl (ev_var rfl) rfl (sp_Gate_floor g)) fun f => we (ev_var rfl) (w_ev (rep := fe) (ev_ne (α := Option Int) pk_fz pk_fz)))) fun g_ => w_ev (rep := id) ev_truB)) (fun _ o => ⟨rfl, o⟩) (w_or (w_not (wv (w_tru (wv (w_un (wv (g_propR (kp := 1) rfl (ev_var rfl) rfl (sp_Gate_finished g)) fun f => w_isi pk_fz)) fun g_ => w_ev (rep := id) ev_truB)) fun b_ => w_ev (rep := id) (fun _ _ => rfl))) (fun _ o => ⟨rfl, o⟩) (w_tru (wv (w_bin (wv (g_propR (kp := 1) rfl (ev_var rfl) rfl (sp_Gate_finished g)) fun f => we (ev_var rfl) (w_ev (rep := fe) (ev_ne (α := Bool) pk_fz pk_fz)))) fun g_ => w_ev (rep := id) ev_truB)))
  · exact ws_ret0 ev_k fun _ o => qfr o rfl
  refine ws_skip ?_
  refine ws_assoc ?_
  refine ws_cutL (J := Option D × Option D × Option D × Option D × Option D) (E := fun (_ : Unit) (j : Option D × Option D × Option D × Option D × Option D) => aE s s' names j.1 j.2.1 j.2.2.1 j.2.2.2.1 j.2.2.2.2) (Lf := fun _ _ => gL mm g) (Qr := fun b r => QFR (gtT g) mm b r) (kr := fun v => v) ?_ (fun u_ j_ => ?_) (fun _ _ h _ => h)
  · refine w_forR1P (j := 2) ev_k (fun xs => ?_)
    exact loop_lc (h := em) (E := fun (_ : Unit) (j : Option D × Option D × Option D × Option D × Option D) => aE s s' names j.1 j.2.1 j.2.2.1 j.2.2.2.1 j.2.2.2.2) (Lf := fun _ _ => gL mm g) (fun _ _ _ _ => rfl) lb_l_asked_1 xs () (none, none, none, none, none)
  exact ws_ret0 ev_k fun _ o => qfr o rfl
end G
end
section
set_option Elab.async false
set_option linter.all false
set_option maxRecDepth 100000
set_option maxHeartbeats 0
namespace G
open PySem L2 M N
section
variable {L : Ow} {X X' : XP} {η : Et}
theorem w_truS {γ : Type} {f : DE} {m : Rs γ} {bv : γ → Bool} {L' : γ → Ow} (h : Wk L m (f η) (PV (fun g => fe (bv g)) L') X) : Wk L m (dTru f η) (PV bv L') X := fun st o => by
  have h := h st o
  cases m with
  | stuck => trivial
  | exc c fs =>
    obtain ⟨e, st', h1, h2⟩ := h
    exact ⟨e, st', by unfold dTru; rw [h1]; rfl, h2⟩
  | ok g =>
    obtain ⟨⟨d, st'⟩, h1, h2, h3⟩ := h
    have h2 : d = fe (bv g) := h2
    subst h2
    exact ⟨(bv g, st'), by unfold dTru; rw [h1]; rfl, rfl, h3⟩
end
abbrev bigI : Int := 100000000000000000000000
def n_door (g : Gt) (door : Int) (name : P) : Rs (P × Gt) :=
  if (decide (door = 0)) = true then (n_Gate_event g name 5 1).bind fun r => Rs.ok (P.non, r.2) else
  if (decide (door = 1)) = true then (n_Gate_take g (.tup [.str "event", name, .int 5, .int 1])).bind fun r => Rs.ok (P.non, r.2) else
  if (decide (door = 2)) = true then (n_Gate_raise_floor g bigI).bind fun r => Rs.ok (P.non, r.2) else
  if (decide (door = 3)) = true then (n_Gate_take g (.tup [.str "raise", .int bigI])).bind fun r => Rs.ok (P.non, r.2) else
  if (decide (door = 4)) = true then (n_Gate_take g (.tup [.str "yard", .tup [.int 0, .int 2]])).bind fun r => Rs.ok (P.non, r.2) else
  if (decide (door = 5)) = true then (n_Gate_finish g).bind fun r => Rs.ok (P.non, r.2) else
  (n_Gate_take g (.tup [.str "finish"])).bind fun r => Rs.ok (P.non, r.2)
def hnd1 (g : Gt) (c : Str) (fs : Option (List (Str × P))) : Rs (P × Gt) := ((xiM [("Finished", true)] c).bind fun a => (xiM [("Finished", true)] c).bind fun b => Rs.ok (P.tup [.str "finished", em a, em b])).bind fun p => Rs.ok (p, g)
def hnd2 (g : Gt) (c : Str) (fs : Option (List (Str × P))) : Rs (P × Gt) := ((xfM ["BadName"] "name" c fs).bind fun a => (xiM [("BadName", true)] c).bind fun b => Rs.ok (P.tup [.str "name", a, em b])).bind fun p => Rs.ok (p, g)
def n_l_refused (g : Gt) (door : Int) (name : P) : Rs (P × Gt) :=
  (Rs.ok P.non).bind fun _ => (calm (tryRs (n_door g door name) (hdRs [("BadName", false), ("Finished", true)] (hnd1 g) (hdRs [("BadName", true), ("Finished", false)] (hnd2 g) excRs)))).bind fun r => Rs.ok r
abbrev rE (door : Int) (name : P) (p : P) : Et := [some (.cell 0), some (fe door), some (fe name), some (.fz p), none, none]
theorem w_door {mm : Nat} {g : Gt} {door : Int} {name : P} : Wk (gL mm g) (n_door g door name) (b_l_refused_3 (rE door name .non)) (QN (fun (r : P × Gt) (_ : Unit) => rE door name r.1) (fun r _ => gL mm r.2)) (XE (fun _ : Unit => rE door name .non) (fun _ => gL mm g)) := by
  have hx : ∀ st, Own (gL mm g) st → XE (fun _ : Unit => rE door name .non) (fun _ => gL mm g) (rE door name .non) st := fun st o => ⟨(), rfl, o⟩
  have he : ∀ st r, Own (gL mm r) st → QN (fun (r : P × Gt) (_ : Unit) => rE door name r.1) (fun r _ => gL mm r.2) (P.non, r) (.nx, rE door name .non, st) := fun st r o => ⟨rfl, (), rfl, o⟩
  unfold n_door
  delta b_l_refused_3
  refine ws_last ?_
  refine ws_ifP (ev_tru (ev_bin (ev_var rfl) ev_k (ev_eq (α := Int) pk_fz pk_fz)) ev_truB) (fun _ => ?_) (fun _ => ?_)
  · refine ws_ex (rep := fun r : Option Int × Gt => fe r.1) (L' := fun r => gL mm r.2) (g_meth (kp := 1) (as := [name, .int 5, .int 1]) rfl (ev_var rfl) (by kernel_rfl) rfl (ev_cons (ev_var rfl) (ev_cons ev_k (ev_cons ev_k ev_nil))) (sp_Gate_event g name 5 1) hx) fun r => ws_end fun st o => he st r.2 o
  refine ws_ifP (ev_tru (ev_bin (ev_var rfl) ev_k (ev_eq (α := Int) pk_fz pk_fz)) ev_truB) (fun _ => ?_) (fun _ => ?_)
  · refine ws_ex (rep := fun r : P × Gt => fe r.1) (L' := fun r => gL mm r.2) (g_meth (kp := 1) (as := [.tup [.str "event", name, .int 5, .int 1]]) rfl (ev_var rfl) (by kernel_rfl) rfl (ev_cons (ev_ap (ev_cons ev_k (ev_cons (ev_var rfl) (ev_cons ev_k (ev_cons ev_k ev_nil)))) (ev_tup [.str "event", name, .int 5, .int 1])) ev_nil) (sp_Gate_take g _) hx) fun r => ws_end fun st o => he st r.2 o
  refine ws_ifP (ev_tru (ev_bin (ev_var rfl) ev_k (ev_eq (α := Int) pk_fz pk_fz)) ev_truB) (fun _ => ?_) (fun _ => ?_)
  · refine ws_ex (rep := fun r : Bool × Gt => fe r.1) (L' := fun r => gL mm r.2) (g_meth (kp := 1) (as := [.int bigI]) rfl (ev_var rfl) (by kernel_rfl) rfl (ev_cons ev_k ev_nil) (sp_Gate_raise_floor g bigI) hx) fun r => ws_end fun st o => he st r.2 o
  refine ws_ifP (ev_tru (ev_bin (ev_var rfl) ev_k (ev_eq (α := Int) pk_fz pk_fz)) ev_truB) (fun _ => ?_) (fun _ => ?_)
  · refine ws_ex (rep := fun r : P × Gt => fe r.1) (L' := fun r => gL mm r.2) (g_meth (kp := 1) (as := [.tup [.str "raise", .int bigI]]) rfl (ev_var rfl) (by kernel_rfl) rfl (ev_cons (ev_ap (ev_cons ev_k (ev_cons ev_k ev_nil)) (ev_tup [.str "raise", .int bigI])) ev_nil) (sp_Gate_take g _) hx) fun r => ws_end fun st o => he st r.2 o
  refine ws_ifP (ev_tru (ev_bin (ev_var rfl) ev_k (ev_eq (α := Int) pk_fz pk_fz)) ev_truB) (fun _ => ?_) (fun _ => ?_)
  · refine ws_ex (rep := fun r : P × Gt => fe r.1) (L' := fun r => gL mm r.2) (g_meth (kp := 1) (as := [.tup [.str "yard", .tup [.int 0, .int 2]]]) rfl (ev_var rfl) (by kernel_rfl) rfl (ev_cons (ev_ap (ev_cons ev_k (ev_cons (ev_ap (ev_cons ev_k (ev_cons ev_k ev_nil)) (ev_tup [.int 0, .int 2])) ev_nil)) (ev_tup [.str "yard", .tup [.int 0, .int 2]])) ev_nil) (sp_Gate_take g _) hx) fun r => ws_end fun st o => he st r.2 o
  refine ws_ifP (ev_tru (ev_bin (ev_var rfl) ev_k (ev_eq (α := Int) pk_fz pk_fz)) ev_truB) (fun _ => ?_) (fun _ => ?_)
  · refine ws_ex (rep := fun r : Unit × Gt => fe r.1) (L' := fun r => gL mm r.2) (g_meth (kp := 1) (as := []) rfl (ev_var rfl) (by kernel_rfl) rfl ev_nil (sp_Gate_finish g) hx) fun r => ws_end fun st o => he st r.2 o
  refine ws_ex (rep := fun r : P × Gt => fe r.1) (L' := fun r => gL mm r.2) (g_meth (kp := 1) (as := [.tup [.str "finish"]]) rfl (ev_var rfl) (by kernel_rfl) rfl (ev_cons (ev_ap (ev_cons ev_k ev_nil) (ev_tup [.str "finish"])) ev_nil) (sp_Gate_take g _) hx) fun r => ws_end fun st o => he st r.2 o
theorem sp_l_refused (g : Gt) (door : Int) (name : P) : SpO gtT (gtT g) (n_l_refused g door name) F_l_refused [em door, name] := by
  refine spo_of0 (gt_dep g) gt_dep rfl [some (.cell 0), some (fe door), some (fe name), none, none, none] rfl fun mm => ?_
  unfold n_l_refused
  delta b_l_refused
  refine ws_last ?_
  refine ws_assoc ?_
  refine ws_set (rep := fun _ : P => fe P.non) (L' := fun _ => gL mm g) (fun st o => ⟨_, rfl, rfl, o⟩) fun p0 => ?_
  refine ws_assoc ?_
  refine ws_cut (E := fun (r : P × Gt) (_ : Unit) => rE door name r.1) (Lf := fun r _ => gL mm r.2) (wk_calm (X' := XT) (w_tryM (E := fun _ : Unit => rE door name .non) (Lx := fun _ => gL mm g) w_door (fun j c fs => ?_))) fun r j => ?_
  · refine wh_as (by show 4 < 6; decide) ?_ (wh_as (by show 5 < 6; decide) ?_ (wh_nil (fun _ _ => trivial)))
    · delta x_l_refused_1
      refine ws_last ?_
      unfold hnd1
      refine ws_set (rep := fe (α := P)) (L' := fun _ => gL mm g) (w_ap (w_cons (we ev_k (w_cons (wv ev_xi fun a => w_cons (wv ev_xi fun b => w_nil (w_ev (rep := fe) (ev_tup [.str "finished", em a, em b])))))))) fun p => ?_
      exact ws_end fun st o => ⟨rfl, (), rfl, o⟩
    · delta x_l_refused_2
      refine ws_last ?_
      unfold hnd2
      refine ws_set (rep := fe (α := P)) (L' := fun _ => gL mm g) (w_ap (w_cons (we ev_k (w_cons (wv ev_xf fun a => w_cons (wv ev_xi fun b => w_nil (w_ev (rep := fe) (ev_tup [.str "name", a, em b])))))))) fun p => ?_
      exact ws_end fun st o => ⟨rfl, (), rfl, o⟩
  exact ws_ret0 (ev_var rfl) fun _ o => qfo (tr := gtT) (s := r.2) o rfl
end G
end
section
set_option Elab.async false
set_option linter.all false
set_option maxRecDepth 100000
set_option maxHeartbeats 0
namespace G
open PySem L2 M N
section
variable {L : Ow} {X X' : XP} {η : Et}
theorem w_notS {γ : Type} {f : DT} {m : Rs γ} {bv : γ → Bool} {L' : γ → Ow} (h : Wk L m (f η) (PV bv L') X) : Wk L m (dNot f η) (PV (fun g => !bv g) L') X := fun st o => by
  have h := h st o
  cases m with
  | stuck => trivial
  | exc c fs =>
    obtain ⟨e, st', h1, h2⟩ := h
    exact ⟨e, st', by unfold dNot; rw [h1]; rfl, h2⟩
  | ok g =>
    obtain ⟨⟨d, st'⟩, h1, h2, h3⟩ := h
    have h2 : d = bv g := h2
    subst h2
    exact ⟨(!bv g, st'), by unfold dNot; rw [h1]; rfl, rfl, h3⟩
theorem w_lenM {α : Type} [Em α] {f : DE} {m : Rs (List α)} {L' : List α → Ow} (h : Wk L m (f η) (PV fe L') X) : Wk L m (dAp lenO (dCons f dNil) η) (PV (fun row => fe (lenI row)) L') X := fun st o => by
  have h := h st o
  cases m with
  | stuck => trivial
  | exc c fs =>
    obtain ⟨e, st', h1, h2⟩ := h
    exact ⟨e, st', by unfold dAp dCons; rw [h1]; rfl, h2⟩
  | ok g =>
    obtain ⟨⟨d, st'⟩, h1, h2, h3⟩ := h
    have h2 : d = fe g := h2
    subst h2
    exact ⟨(fe (lenI g), st'), e_ap (e_cons h1 e_nil) ((ev_len (L := []) (xs := g) pk_fz) st' (Own.nil _)), rfl, h3⟩
def askM (g : Gt) (names : Tu Str) (ds : List P) : Rs Bool := (calm (n_l_gate ds)).bind fun s => calm (n_l_asked g s names)
/-- asked(gate, gate(deeds), names) -/
theorem w_askd {kp n i k : Nat} {g : Gt} {names : Tu Str} {fd : DE} {md : Rs (List P)} (h0 : L[kp]? = some (n, gtT g)) (hi : η[i]? = some (some (.cell n))) (hk : η[k]? = some (some (fe names))) (V : Wk L md (fd η) (PV fe fun _ => L) X) :
    Wk L (md.bind (askM g names)) (dCall F_l_asked (dCons (dVar i) (dCons (dCall F_l_gate (dCons fd dNil)) (dCons (dVar k) dNil))) η) (PV fe fun _ => L) X := by
  have h : Wk L ((md.bind fun ds => calm (n_l_gate ds)).bind fun s => calm (n_l_asked g s names)) (dCall F_l_asked (dCons (dVar i) (dCons (dCall F_l_gate (dCons fd dNil)) (dCons (dVar k) dNil))) η) (PV fe fun _ => L) X :=
    w_call (w_cons (we (ev_var hi) (w_cons (wv (w_call (w_cons (wv V fun ds => w_nil (wk_calm (X' := XT) (w_call0 (sp_l_gate ds) rfl (fun _ _ => trivial)))))) fun s => w_cons (we (ev_var hk) (w_nil (wk_calm (X' := XT) (w_callR (as := [em s, em names]) kp (sp_l_asked g s names) rfl h0 (gt_dep g) (fun _ _ => trivial)))))))))
  have e : ((md.bind fun ds => calm (n_l_gate ds)).bind fun s => calm (n_l_asked g s names)) = md.bind (askM g names) := by
    cases md <;> rfl
  rw [e] at h
  exact h
end
theorem w_refd {δ : Type} {mm i : Nat} {g : Gt} {door : Int} {fn ft : DE} {md : Rs δ} {p : δ → P} {t : P} (h0 : η[0]? = some (some (.cell 0))) (hd : η[i]? = some (some (fe door))) (V : Wk (gL mm g) md (fn η) (PV (fun k => fe (p k)) fun _ => gL mm g) X) (hT : ∀ L, Ev L (ft η) (.fz t)) :
    Wk (gL mm g) ((md.bind fun k => calm (n_l_refused g door (p k))).bind fun r => (neM r.1 t).bind fun b => Rs.ok (b, r.2)) (dTru (dBin neO (dCall F_l_refused (dCons (dVar 0) (dCons (dVar i) (dCons fn dNil)))) ft) η) (PV (fun q => q.1) fun q => gL mm q.2) X := by
  refine w_truS (w_bin (wv (L' := fun r : P × Gt => gL mm r.2) (rep := fun r : P × Gt => fe r.1) ?_ fun r => we (hT _) (w_withS (rep := fe) (L' := fun s => gL mm s) (w_neM pk_fz pk_fz) (fun _ o => o))))
  exact w_call (w_cons (we (ev_var h0) (w_cons (we (ev_var hd) (w_cons (wv V fun k => w_nil (wk_calm (X' := XT) (w_callO (as := [em door, p k]) 1 (sp_l_refused g door (p k)) rfl rfl (gt_dep g) gt_dep (fun _ _ => trivial)))))))))
def n_l_no_name_1 (strange : P) (g : Gt) (door : Int) : Rs (LC Gt (Bool × Gt)) :=
  ((calm (n_l_refused g door strange)).bind fun r => (neM r.1 (.tup [.str "name", strange, .bl true])).bind fun b => Rs.ok (b, r.2)).bind fun q => if q.1 = true then Rs.ok (.rt (false, q.2)) else Rs.ok (.nx q.2)
def n_l_no_name (g : Gt) (deeds : List P) (names : Tu Str) (strange : P) : Rs (Bool × Gt) :=
  (((calm (n_Gate_lets_in g strange bigI)).bind fun b => Rs.ok (!decide (b = false))).bind fun g_ => Rs.ok g_).bind fun b => if b = true then Rs.ok (false, g) else
  ((rng1 2).bind fun xs => loopRs (n_l_no_name_1 strange) xs g).bindL (fun g => ((Rs.ok deeds).bind (askM g names)).bind fun b => Rs.ok (b, g)) (fun v => v)
abbrev nE (deeds : List P) (names : Tu Str) (strange : P) (o4 : Option D) : Et := [some (.cell 0), some (fe deeds), some (fe names), some (fe strange), o4]
theorem lb_l_no_name_1 {mm : Nat} {deeds : List P} {names : Tu Str} {strange : P} : ∀ (g : Gt) (j : Option D) (x : Int), Wk (gL mm g) (n_l_no_name_1 strange g x) (b_l_no_name_1 (nE deeds names strange (some (fe x)))) (QC (fun (_ : Gt) (j : Option D) => nE deeds names strange j) (fun g _ => gL mm g) (fun v r => QFO gtT mm v r)) noX := fun g j x => by
  unfold n_l_no_name_1
  delta b_l_no_name_1
  refine ws_last ?_
  refine ws_ifG (bv := fun q : Bool × Gt => q.1) (L' := fun q => gL mm q.2) ?_ (fun q => ?_) (fun q => ?_)
  · exact w_refd (md := Rs.ok strange) (p := fun p => p) rfl rfl (w_ev (rep := fun p : P => fe p) (ev_var rfl)) (fun L => ev_ap (ev_cons ev_k (ev_cons (ev_var rfl) (ev_cons ev_k ev_nil))) (ev_tup [.str "name", strange, .bl true]))
  · exact ws_ret0 ev_k fun _ o => ⟨qfo (tr := gtT) (s := q.2) o rfl, _, rfl⟩
  · refine ws_skip ?_
    exact ws_end fun _ o => ⟨.inl rfl, some (fe x), rfl, o⟩
theorem sp_l_no_name (g : Gt) (deeds : List P) (names : Tu Str) (strange : P) : SpO gtT (gtT g) (n_l_no_name g deeds names strange) F_l_no_name [em deeds, em names, strange] := by
  refine spo_of0 (gt_dep g) gt_dep rfl [some (.cell 0), some (fe deeds), some (fe names), some (fe strange), none] rfl fun mm => ?_
  unfold n_l_no_name
  delta b_l_no_name
  refine ws_last ?_
  refine ws_assoc ?_
  refine ws_if (L' := fun _ => gL mm g) ?_ ?_ ?_
  · exact w_tru (wv (w_bin (wv (g_methRc (kp := 1) (as := [strange, .int bigI]) rfl (ev_var rfl) (by kernel_rfl) rfl (ev_cons (ev_var rfl) (ev_cons ev_k ev_nil)) (sp_Gate_lets_in g strange bigI)) fun b => we ev_k (w_ev (rep := fe) (ev_ntB (y := false))))) fun g_ => w_ev (rep := id) ev_truB)
  · exact ws_ret0 ev_k fun _ o => qfo (tr := gtT) (s := g) o rfl
  refine ws_skip ?_
  refine ws_assoc ?_
  refine ws_cutL (J := Option D) (E := fun (_ : Gt) (j : Option D) => nE deeds names strange j) (Lf := fun g _ => gL mm g) (Qr := fun v r => QFO gtT mm v r) (kr := fun v => v) ?_ (fun g j_ => ?_) (fun _ _ h _ => h)
  · refine w_forR1P (j := 2) ev_k (fun xs => ?_)
    exact loop_lc (h := em) (E := fun (_ : Gt) (j : Option D) => nE deeds names strange j) (Lf := fun g _ => gL mm g) (fun _ _ _ _ => rfl) lb_l_no_name_1 xs g none
  refine wk_retB (s := g) ?_
  refine ws_ret (rep := fe (α := Bool)) (L' := fun _ => gL mm g) ?_ fun b st o => qfo (tr := gtT) (s := g) o rfl
  exact w_askd (kp := 1) (g := g) rfl rfl rfl (w_ev (rep := fe) (ev_var rfl))
def takeM (g : Gt) (deeds : List P) (method k : Int) : Rs (Bool × Gt) :=
  (calm (n_l_gate (cut deeds none (some k)))).bind fun s => (N.idx deeds k).bind fun d => ((modM (k + method) 2).bind fun x => Rs.ok (decide (x = 1))).bind fun straight => calm (n_l_taken g s d straight)
def n_l_walked_1 (deeds : List P) (names : Tu Str) (method : Int) (g : Gt) (k : Int) : Rs (LC Gt (Bool × Gt)) :=
  (takeM g deeds method k).bind fun q => if (!q.1) = true then Rs.ok (.rt (false, q.2)) else
  ((Rs.ok (cut deeds none (some (k + 1)))).bind (askM q.2 names)).bind fun b => if (!b) = true then Rs.ok (.rt (false, q.2)) else Rs.ok (.nx q.2)
def n_l_walked (g : Gt) (deeds : List P) (names : Tu Str) (method : Int) : Rs (Bool × Gt) :=
  ((rng1 (lenI deeds)).bind fun xs => loopRs (n_l_walked_1 deeds names method) xs g).bindL (fun g => Rs.ok (true, g)) (fun v => v)
abbrev wE (deeds : List P) (names : Tu Str) (method : Int) (o4 : Option D) : Et := [some (.cell 0), some (fe deeds), some (fe names), some (fe method), o4]
theorem lb_l_walked_1 {mm : Nat} {deeds : List P} {names : Tu Str} {method : Int} : ∀ (g : Gt) (j : Option D) (x : Int), Wk (gL mm g) (n_l_walked_1 deeds names method g x) (b_l_walked_1 (wE deeds names method (some (fe x)))) (QC (fun (_ : Gt) (j : Option D) => wE deeds names method j) (fun g _ => gL mm g) (fun v r => QFO gtT mm v r)) noX := fun g j x => by
  unfold n_l_walked_1
  delta b_l_walked_1
  refine ws_last ?_
  refine ws_assoc ?_
  refine ws_ifG (bv := fun q : Bool × Gt => !q.1) (L' := fun q => gL mm q.2) ?_ (fun q => ?_) (fun q => ?_)
  · unfold takeM
    exact w_notS (w_truS (w_call (w_cons (we (ev_var rfl) (w_cons (wv (w_call (w_cons (we (ev_slF (ev_var rfl) ev_nopart (ev_part (ev_var rfl)) (ev_slL pk_fz)) (w_nil (wk_calm (X' := XT) (w_call0 (sp_l_gate _) rfl (fun _ _ => trivial))))))) fun s => w_cons (wv (w_bin (we (ev_var rfl) (we (ev_var rfl) (w_idx pk_fz)))) fun d => w_cons (wv (w_bin (wv (w_bin (we (ev_ap (ev_cons (ev_bin (ev_var rfl) (ev_var rfl) ev_addI) ev_nil) ev_int1) (we ev_k w_mod))) fun x => we ev_k (w_ev (rep := fe) (ev_eq (α := Int) pk_fz pk_fz)))) fun straight => w_nil (wk_calm (X' := XT) (w_callO (as := [em s, d, em straight]) 1 (sp_l_taken g s d straight) rfl rfl (gt_dep g) gt_dep (fun _ _ => trivial)))))))))))
  · exact ws_ret0 ev_k fun _ o => ⟨qfo (tr := gtT) (s := q.2) o rfl, _, rfl⟩
  refine ws_skip ?_
  refine ws_ifG (bv := fun b : Bool => !b) (L' := fun _ => gL mm q.2) ?_ (fun b => ?_) (fun b => ?_)
  · exact w_notS (w_truS (bv := fun b : Bool => b) (w_askd (kp := 1) (g := q.2) rfl rfl rfl (w_ev (rep := fe) (ev_slF (ev_var rfl) ev_nopart (ev_part (ev_bin (ev_var rfl) ev_k ev_addI)) (ev_slL pk_fz)))))
  · exact ws_ret0 ev_k fun _ o => ⟨qfo (tr := gtT) (s := q.2) o rfl, _, rfl⟩
  · refine ws_skip ?_
    exact ws_end fun _ o => ⟨.inl rfl, some (fe x), rfl, o⟩
theorem sp_l_walked (g : Gt) (deeds : List P) (names : Tu Str) (method : Int) : SpO gtT (gtT g) (n_l_walked g deeds names method) F_l_walked [em deeds, em names, em method] := by
  refine spo_of0 (gt_dep g) gt_dep rfl [some (.cell 0), some (fe deeds), some (fe names), some (fe method), none] rfl fun mm => ?_
  unfold n_l_walked
  delta b_l_walked
  refine ws_last ?_
  refine ws_assoc ?_
  refine ws_cutL (J := Option D) (E := fun (_ : Gt) (j : Option D) => wE deeds names method j) (Lf := fun g _ => gL mm g) (Qr := fun v r => QFO gtT mm v r) (kr := fun v => v) ?_ (fun g j_ => ?_) (fun _ _ h _ => h)
  · refine w_forR1P (j := lenI deeds) (ev_ap (ev_cons (ev_var rfl) ev_nil) (ev_len pk_fz)) (fun xs => ?_)
    exact loop_lc (h := em) (E := fun (_ : Gt) (j : Option D) => wE deeds names method j) (Lf := fun g _ => gL mm g) (fun _ _ _ _ => rfl) lb_l_walked_1 xs g none
  exact ws_ret0 ev_k fun _ o => qfo (tr := gtT) (s := g) o rfl
abbrev endP : P := .tup [.str "finished", .bl true, .bl true]
def n_l_ended_1 (names : Tu Str) (name : P) (g : Gt) (door : Int) : Rs (LC Gt (Bool × Gt)) :=
  ((calm (n_l_refused g door name)).bind fun r => (neM r.1 endP).bind fun b => Rs.ok (b, r.2)).bind fun q => if q.1 = true then Rs.ok (.rt (false, q.2)) else
  (((N.idx names.l 0).bind fun k => calm (n_l_refused q.2 door (em k))).bind fun r => (neM r.1 endP).bind fun b => Rs.ok (b, r.2)).bind fun q => if q.1 = true then Rs.ok (.rt (false, q.2)) else Rs.ok (.nx q.2)
def n_l_ended (g : Gt) (deeds : List P) (names : Tu Str) (name : P) : Rs (Bool × Gt) :=
  ((cat deeds [P.tup [.str "finish"]]).bind fun ds => calm (n_l_gate ds)).bind fun s =>
  ((rng1 7).bind fun xs => loopRs (n_l_ended_1 names name) xs g).bindL (fun g =>
    ((((N.idx names.l 0).bind fun k => calm (n_Gate_lets_in g (em k) bigI)).bind fun b => Rs.ok (!decide (b = false))).bind fun g_ => Rs.ok g_).bind fun b => if b = true then Rs.ok (false, g) else
    ((((N.idx names.l 0).bind fun k => calm (n_Gate_mark_of g k)).bind fun m => (((N.idx names.l 0).bind fun k => Rs.ok ((kget k s.lets).getD ([] : List LtG))).bind fun row => Rs.ok (P.tup [em (lenI row), .non])).bind fun p => neM (em m) p).bind fun g_ => Rs.ok g_).bind fun b => if b = true then Rs.ok (false, g) else
    (calm (n_l_asked g s names)).bind fun b => Rs.ok (b, g)) (fun v => v)
abbrev eE (deeds : List P) (names : Tu Str) (name : P) (s : Gt) (o5 : Option D) : Et := [some (.cell 0), some (fe deeds), some (fe names), some (fe name), some (fe s), o5]
theorem lb_l_ended_1 {mm : Nat} {deeds : List P} {names : Tu Str} {name : P} {s : Gt} : ∀ (g : Gt) (j : Option D) (x : Int), Wk (gL mm g) (n_l_ended_1 names name g x) (b_l_ended_1 (eE deeds names name s (some (fe x)))) (QC (fun (_ : Gt) (j : Option D) => eE deeds names name s j) (fun g _ => gL mm g) (fun v r => QFO gtT mm v r)) noX := fun g j x => by
  unfold n_l_ended_1
  delta b_l_ended_1
  refine ws_last ?_
  refine ws_assoc ?_
  refine ws_ifG (bv := fun q : Bool × Gt => q.1) (L' := fun q => gL mm q.2) ?_ (fun q => ?_) (fun q => ?_)
  · exact w_refd (md := Rs.ok name) (p := fun p => p) rfl rfl (w_ev (rep := fun p : P => fe p) (ev_var rfl)) (fun L => ev_ap (ev_cons ev_k (ev_cons ev_k (ev_cons ev_k ev_nil))) (ev_tup [.str "finished", .bl true, .bl true]))
  · exact ws_ret0 ev_k fun _ o => ⟨qfo (tr := gtT) (s := q.2) o rfl, _, rfl⟩
  refine ws_skip ?_
  refine ws_ifG (bv := fun q : Bool × Gt => q.1) (L' := fun q => gL mm q.2) ?_ (fun q => ?_) (fun q => ?_)
  · exact w_refd (p := fun k : Str => em k) rfl rfl (w_bin (we (ev_var rfl) (we ev_k (w_idxT pk_fz)))) (fun L => ev_ap (ev_cons ev_k (ev_cons ev_k (ev_cons ev_k ev_nil))) (ev_tup [.str "finished", .bl true, .bl true]))
  · exact ws_ret0 ev_k fun _ o => ⟨qfo (tr := gtT) (s := q.2) o rfl, _, rfl⟩
  · refine ws_skip ?_
    exact ws_end fun _ o => ⟨.inl rfl, some (fe x), rfl, o⟩
theorem sp_l_ended (g : Gt) (deeds : List P) (names : Tu Str) (name : P) : SpO gtT (gtT g) (n_l_ended g deeds names name) F_l_ended [em deeds, em names, name] := by
  refine spo_of0 (gt_dep g) gt_dep rfl [some (.cell 0), some (fe deeds), some (fe names), some (fe name), none, none] rfl fun mm => ?_
  unfold n_l_ended
  delta b_l_ended
  refine ws_last ?_
  refine ws_assoc ?_
  refine ws_set (rep := fe (α := Gt)) (L' := fun _ => gL mm g) ?_ fun s => ?_
  · exact w_call (w_cons (wv (w_bin (we (ev_var rfl) (we (ev_ap (ev_cons (ev_ap (ev_cons ev_k ev_nil) (ev_tup [.str "finish"])) ev_nil) (ev_lst [.tup [.str "finish"]])) (w_cat (α := P) pk_fz pk_fz)))) fun ds => w_nil (wk_calm (X' := XT) (w_call0 (sp_l_gate ds) rfl (fun _ _ => trivial)))))
  refine ws_assoc ?_
  refine ws_cutL (J := Option D) (E := fun (_ : Gt) (j : Option D) => eE deeds names name s j) (Lf := fun g _ => gL mm g) (Qr := fun v r => QFO gtT mm v r) (kr := fun v => v) ?_ (fun g j_ => ?_) (fun _ _ h _ => h)
  · refine w_forR1P (j := 7) ev_k (fun xs => ?_)
    exact loop_lc (h := em) (E := fun (_ : Gt) (j : Option D) => eE deeds names name s j) (Lf := fun g _ => gL mm g) (fun _ _ _ _ => rfl) lb_l_ended_1 xs g none
  refine ws_assoc ?_
  refine ws_if (L' := fun _ => gL mm g) ?_ ?_ ?_
  · refine w_tru (wv (w_bin (wv ?_ fun b => we ev_k (w_ev (rep := fe) (ev_ntB (y := false))))) fun g_ => w_ev (rep := id) ev_truB)
    refine w_methOb (kp := 1) (fs := gtF g) rfl (ev_var rfl) (by kernel_rfl) rfl ?_
    exact w_cons (wv (w_bin (we (ev_var rfl) (we ev_k (w_idxT pk_fz)))) fun k => w_cons (we ev_k (w_nil (wk_calm (X' := XT) (w_callR (as := [em k, .int bigI]) 1 (sp_Gate_lets_in g (em k) bigI) rfl rfl (gt_dep g) (fun _ _ => trivial))))))
  · exact ws_ret0 ev_k fun _ o => qfo (tr := gtT) (s := g) o rfl
  refine ws_skip ?_
  refine ws_assoc ?_
  refine ws_if (L' := fun _ => gL mm g) ?_ ?_ ?_
  · refine w_tru (wv (w_bin (wv (rep := fun m : Option MkG => fe m) (L' := fun _ => gL mm g) ?_ fun m => wv (rep := fun p : P => fe p) (L' := fun _ => gL mm g) ?_ fun p => w_neM pk_fz pk_fz)) fun g_ => w_ev (rep := id) ev_truB)
    · refine w_methOb (kp := 1) (fs := gtF g) rfl (ev_var rfl) (by kernel_rfl) rfl ?_
      exact w_cons (wv (w_bin (we (ev_var rfl) (we ev_k (w_idxT pk_fz)))) fun k => w_nil (wk_calm (X' := XT) (w_callR (as := [em k]) 1 (sp_Gate_mark_of g k) rfl rfl (gt_dep g) (fun _ _ => trivial))))
    · refine w_ap (w_cons (wv (L' := fun _ => gL mm g) (rep := fun row : List LtG => fe (lenI row)) ?_ fun row => w_cons (we ev_k (w_nil (w_ev (rep := fe) (ev_tup [em (lenI row), .non]))))))
      exact w_lenM (w_get9 (ev_bin (ev_var rfl) ev_k (ev_tix (ps := [.dct (kvE s.lets), em s.fl, .dct (kvE s.cnt), .bl s.fin, .lst (List.map em s.late)]))) (w_bin (we (ev_var rfl) (we ev_k (w_idxT pk_fz)))) (ev_ap ev_nil (ev_lst [])) dct_fz)
  · exact ws_ret0 ev_k fun _ o => qfo (tr := gtT) (s := g) o rfl
  refine ws_skip ?_
  refine wk_retB (s := g) ?_
  refine ws_ret (rep := fe (α := Bool)) (L' := fun _ => gL mm g) ?_ fun b st o => qfo (tr := gtT) (s := g) o rfl
  exact w_call (w_cons (we (ev_var rfl) (w_cons (we (ev_var rfl) (w_cons (we (ev_var rfl) (w_nil (wk_calm (X' := XT) (w_callR (as := [em s, em names]) 1 (sp_l_asked g s names) rfl rfl (gt_dep g) (fun _ _ => trivial))))))))))
end G
end
section
set_option Elab.async false
set_option linter.all false
set_option maxRecDepth 100000
set_option maxHeartbeats 0
namespace G
open PySem L2 M N
abbrev gC (g : Gt) : Tr := gtT g
def tkM (g : Gt) (d : P) : Rs Gt := (calm (n_Gate_take g d)).bind fun r => Rs.ok r.2
abbrev raiseP : P := .tup [.str "raise", .int bigI]
def n_l_twinned (deeds : List P) (names : Tu Str) (moment : Int) : Rs Bool :=
  (Rs.ok g0).bind fun g => (foldRs tkM (cut deeds none (some moment)) g).bind fun g =>
  (calm (n_Gate_twin g)).bind fun c => (foldRs tkM (cut deeds (some moment) none) g).bind fun g =>
  ((Rs.ok (cut deeds none (some moment))).bind (askM c names)).bind fun b => if (!b) = true then Rs.ok false else
  ((N.idx names.l 0).bind fun k => Rs.ok (P.tup [.str "event", em k, .int bigI, .int 1])).bind fun ev =>
  (calm (n_Gate_take c ev)).bind fun r => (calm (n_Gate_take r.2 raiseP)).bind fun r =>
  ((cat (cut deeds none (some moment)) [ev, raiseP]).bind (askM r.2 names)).bind fun b => if (!b) = true then Rs.ok false else
  (Rs.ok deeds).bind (askM g names)
section
variable {L : Ow} {X X' : XP} {η : Et}
theorem w_take {kp n i : Nat} {g : Gt} {fd : DE} {d : P} (h0 : L[kp]? = some (n, gtT g)) (hi : η[i]? = some (some (.cell n))) (hd : Ev L (fd η) (.fz d)) : Wk L (calm (n_Gate_take g d)) (dMeth "take" mt_take (dVar i) (dCons fd dNil) η) (PV (fun r => fe r.1) fun r => L.set kp (n, gtT r.2)) X :=
  w_methOb (fs := gtF g) h0 (ev_var hi) (by kernel_rfl) rfl (we (ev_cons hd ev_nil) (wk_calm (X' := XT) (w_callO (as := [d]) kp (sp_Gate_take g d) rfl h0 (gt_dep g) gt_dep (fun _ _ => trivial))))
end
abbrev twE (deeds : List P) (names : Tu Str) (moment : Int) (n3 : Nat) (o4 o5 o6 : Option D) : Et := [some (fe deeds), some (fe names), some (fe moment), some (.cell n3), o4, o5, o6]
theorem lb_l_twinned_1 {deeds : List P} {names : Tu Str} {moment : Int} {n3 : Nat} {rest : Ow} {o5 o6 : Option D} : ∀ (g : Gt) (j : Option D) (x : P), Wk ((n3, gtT g) :: rest) (tkM g x) (dEx (dMeth "take" mt_take (dVar 3) (dCons (dVar 4) (dNil))) (twE deeds names moment n3 (some (fe x)) o5 o6)) (QB (fun (_ : Gt) (j : Option D) => twE deeds names moment n3 j o5 o6) (fun g _ => (n3, gtT g) :: rest)) XT := fun g j x => by
  refine ws_last ?_
  unfold tkM
  refine ws_ex (rep := fun r : P × Gt => fe r.1) (L' := fun r => (n3, gtT r.2) :: rest) (w_take (kp := 0) rfl rfl (ev_var rfl)) fun r => ?_
  exact ws_end fun _ o => ⟨.inl rfl, some (fe x), rfl, o⟩
theorem sp_l_twinned (deeds : List P) (names : Tu Str) (moment : Int) : Sp0 (n_l_twinned deeds names moment) F_l_twinned [em deeds, em names, em moment] := by
  refine sp0_of rfl [some (fe deeds), some (fe names), some (fe moment), none, none, none, none] rfl ?_
  unfold n_l_twinned
  delta b_l_twinned
  refine ws_last ?_
  refine ws_assoc ?_
  refine ws_setO (c := "Gate") (fsOf := fun g : Gt => gtF g) (L' := fun _ => []) (fun st o => w_newGate (X := XT) st o) fun g n3 => ?_
  refine ws_assoc ?_
  refine ws_cut (J := Option D) (E := fun (_ : Gt) (j : Option D) => twE deeds names moment n3 j none none) (Lf := fun g _ => [(n3, gtT g)]) ?_ fun g j => ?_
  · refine w_forP (it := cut deeds none (some moment)) (ev_slF (ev_var rfl) ev_nopart (ev_part (ev_var rfl)) (ev_slL pk_fz)) (src_l fz_fz) ?_
    exact loop_fold (h := em) (E := fun (_ : Gt) (j : Option D) => twE deeds names moment n3 j none none) (Lf := fun g _ => [(n3, gtT g)]) (fun _ _ _ _ => rfl) lb_l_twinned_1 _ g none
  refine ws_assoc ?_
  refine ws_setO (c := "Gate") (fsOf := fun g : Gt => gtF g) (L' := fun _ => [(n3, gtT g)]) (fun st o => g_methC (X := XT) (rt := gtT) (kp := 0) (as := []) rfl (ev_var rfl) (by kernel_rfl) rfl ev_nil gt_dep (sp_Gate_twin_n g) st o) fun c n5 => ?_
  refine ws_assoc ?_
  refine ws_cut (J := Option D) (E := fun (_ : Gt) (j : Option D) => twE deeds names moment n3 j (some (.cell n5)) none) (Lf := fun g _ => [(n3, gtT g), (n5, gtT c)]) ?_ fun g j => ?_
  · refine w_forP (it := cut deeds (some moment) none) (ev_slF (ev_var rfl) (ev_part (ev_var rfl)) ev_nopart (ev_slL pk_fz)) (src_l fz_fz) ?_
    exact loop_fold (h := em) (E := fun (_ : Gt) (j : Option D) => twE deeds names moment n3 j (some (.cell n5)) none) (Lf := fun g _ => [(n3, gtT g), (n5, gtT c)]) (fun _ _ _ _ => rfl) lb_l_twinned_1 _ g _
  refine ws_assoc ?_
  refine ws_ifG (bv := fun b : Bool => !b) (L' := fun _ => [(n3, gtT g), (n5, gtT c)]) ?_ (fun b => ?_) (fun b => ?_)
  · exact w_notS (w_truS (bv := fun b : Bool => b) (w_askd (kp := 1) (g := c) rfl rfl rfl (w_ev (rep := fe) (ev_slF (ev_var rfl) ev_nopart (ev_part (ev_var rfl)) (ev_slL pk_fz)))))
  · exact ws_ret0 ev_k fun _ o => qf0 fz_fz o
  refine ws_skip ?_
  refine ws_assoc ?_
  refine ws_set (rep := fun p : P => fe p) (L' := fun _ => [(n3, gtT g), (n5, gtT c)]) ?_ fun ev => ?_
  · exact w_ap (w_cons (we ev_k (w_cons (wv (w_bin (we (ev_var rfl) (we ev_k (w_idxT pk_fz)))) fun k => w_cons (we ev_k (w_cons (we ev_k (w_nil (w_ev (rep := fun p : P => fe p) (ev_tup [.str "event", em k, .int bigI, .int 1]))))))))))
  refine ws_assoc ?_
  refine ws_ex (rep := fun r : P × Gt => fe r.1) (L' := fun r => [(n3, gtT g), (n5, gtT r.2)]) (w_take (kp := 1) (g := c) rfl rfl (ev_var rfl)) fun r => ?_
  refine ws_assoc ?_
  refine ws_ex (rep := fun r : P × Gt => fe r.1) (L' := fun r => [(n3, gtT g), (n5, gtT r.2)]) (w_take (kp := 1) (g := r.2) rfl rfl (ev_ap (ev_cons ev_k (ev_cons ev_k ev_nil)) (ev_tup [.str "raise", .int bigI]))) fun r => ?_
  refine ws_assoc ?_
  refine ws_ifG (bv := fun b : Bool => !b) (L' := fun _ => [(n3, gtT g), (n5, gtT r.2)]) ?_ (fun b => ?_) (fun b => ?_)
  · refine w_notS (w_truS (bv := fun b : Bool => b) (w_askd (kp := 1) (g := r.2) rfl rfl rfl ?_))
    exact w_bin (we (ev_slF (ev_var rfl) ev_nopart (ev_part (ev_var rfl)) (ev_slL pk_fz)) (we (ev_ap (ev_cons (ev_var rfl) (ev_cons (ev_ap (ev_cons ev_k (ev_cons ev_k ev_nil)) (ev_tup [.str "raise", .int bigI])) ev_nil)) (ev_lst [ev, raiseP])) (w_cat (α := P) pk_fz pk_fz)))
  · exact ws_ret0 ev_k fun _ o => qf0 fz_fz o
  refine ws_skip ?_
  refine ws_ret (rep := fe (α := Bool)) (L' := fun _ => [(n3, gtT g), (n5, gtT r.2)]) ?_ fun b st o => qf0 fz_fz o
  exact w_askd (kp := 0) (g := g) rfl rfl rfl (w_ev (rep := fe) (ev_var rfl))
end G
end
section
set_option Elab.async false
set_option linter.all false
set_option maxRecDepth 100000
set_option maxHeartbeats 0
namespace G
open PySem L2 M N
section
variable {L : Ow} {X X' : XP} {η : Et}
theorem ws_retQ {γ : Type} {f : DE} {y : DS} {mv : Rs γ} {Q' : γ → D × Sr → Prop} {Q : γ → Fl × Et × Sr → Prop} (V : Wk L mv (f η) Q' X) (hq : ∀ g a, Q' g a → Q g (.rt a.1, η, a.2)) : Wk L mv (dSeq (dRet f) y η) Q X := fun st o => by
  have h := V st o
  cases mv with
  | stuck => trivial
  | exc c fs =>
    obtain ⟨e, st', h1, h2⟩ := h
    exact ⟨e, st', by unfold dSeq dRet; rw [h1]; rfl, h2⟩
  | ok g =>
    obtain ⟨a, h1, h2⟩ := h
    exact ⟨(.rt a.1, η, a.2), by unfold dSeq dRet; rw [h1]; rfl, hq g a h2⟩
theorem wk_fst {σ' : Type} {c : Sr → R (D × Sr)} {m : Rs (Bool × σ')} {L' : Bool × σ' → Ow} (h : Wk L m c (PV (fun g => fe g.1) L') X) : Wk L (m.bind fun r => Rs.ok r.1) c (fun b a => a.1 = fe b) X := fun st o => by
  have h := h st o
  cases m with
  | stuck => trivial
  | exc c fs => exact h
  | ok g =>
    obtain ⟨a, h1, h2, _⟩ := h
    exact ⟨a, h1, h2⟩
theorem w_int1S {γ : Type} {f : DE} {m : Rs γ} {v : γ → Int} {L' : γ → Ow} (h : Wk L m (f η) (PV (fun g => fe (v g)) L') X) : Wk L m (dAp int1O (dCons f dNil) η) (PV (fun g => fe (v g)) L') X := fun st o => by
  have h := h st o
  cases m with
  | stuck => trivial
  | exc c fs =>
    obtain ⟨e, st', h1, h2⟩ := h
    exact ⟨e, st', by unfold dAp dCons; rw [h1]; rfl, h2⟩
  | ok g =>
    obtain ⟨⟨d, st'⟩, h1, h2, h3⟩ := h
    have h2 : d = fe (v g) := h2
    subst h2
    exact ⟨(fe (v g), st'), e_ap (e_cons h1 e_nil) (ev_int1 (L := []) st' (Own.nil _)), rfl, h3⟩
end
def strangeP : P := .tup [.str "", .str "A", .str "a1", .str "abcdefghi", .str "a b", .str " a", .str "a ", .str "a-b", .str "0", .non, .int 5]
abbrev finP : P := .tup [.str "finish"]
noncomputable def n_law (script : Rol) : Rs Bool :=
  (n_l_stream script).bind fun stream =>
  (n_l_world stream).bind fun world =>
  ((n_l_draw world.2 18).bind fun d => (modM d.1 (lenI world.1.b + 1)).bind fun v => Rs.ok (v, d.2)).bind fun moment =>
  (n_l_draw moment.2 2).bind fun method =>
  ((n_l_draw method.2 11).bind fun d => (pixP strangeP d.1).bind fun v => Rs.ok (v, d.2)).bind fun strange =>
  (n_l_draw strange.2 3).bind fun finish =>
  (Rs.ok g0).bind fun g =>
  ((calm (n_l_walked g world.1.b world.1.a method.1)).bind fun q => if (!q.1) = true then Rs.ok (true, q.2) else (calm (n_l_no_name q.2 world.1.b world.1.a strange.1)).bind fun r => Rs.ok (!r.1, r.2)).bind fun q => if q.1 = true then Rs.ok false else
  (calm (n_l_twinned world.1.b world.1.a moment.1)).bind fun b => if (!b) = true then Rs.ok false else
  ((Rs.ok (decide (finish.1 = 1))).bind fun b => if b = true then (calm (n_Gate_finish q.2)).bind fun r => Rs.ok (false, r.2) else Rs.ok (false, q.2)).bind fun q => if q.1 = true then Rs.ok false else
  ((Rs.ok (decide (finish.1 = 2))).bind fun b => if b = true then (calm (n_Gate_take q.2 finP)).bind fun r => Rs.ok (!r.1.isNon, r.2) else Rs.ok (false, q.2)).bind fun q => if q.1 = true then Rs.ok false else
  (Rs.ok (decide (finish.1 = 0))).bind fun b => if b = true then Rs.ok true else (calm (n_l_ended q.2 world.1.b world.1.a strange.1)).bind fun r => Rs.ok r.1
theorem sp_law (script : Rol) : Sp0 (n_law script) F_law [em (script : Rol)] := by
  refine sp0_of rfl [some (fe (script : Rol)), none, none, none, none, none, none, none, none] rfl ?_
  unfold n_law
  delta b_law
  refine ws_last ?_
  refine ws_assoc ?_
  refine ws_setN (w_call (w_cons (we (ev_var rfl) (w_nil (w_callN (fun _ => rfl) (spn_l_stream script) rfl (fun _ _ => trivial)))))) fun stream n_ => ?_
  refine ws_assoc ?_
  refine ws_unp (rep := fun (w : T2 (Tu Str) (List P) × List Int) => fe w.1) (L' := fun w => [(n_, .lst (List.map em (w.2 : List Int)))]) (ps := fun w => [em w.1.a, em w.1.b]) (η' := fun w => [some (fe (script : Rol)), some (.cell n_), none, none, none, none, none, some (fe w.1.a), some (fe w.1.b)]) ?_ (fun _ => pk_fz) (fun _ _ => rfl) fun world => ?_
  · exact w_call (w_cons (we (ev_var rfl) (w_nil (w_call1 0 (sp_l_world stream) rfl rfl rfl (fun _ => rfl)))))
  refine ws_assoc ?_
  refine ws_set (rep := fun (g : Int × List Int) => fe g.1) (L' := fun g => [(n_, .lst (List.map em (g.2 : List Int)))]) ?_ fun moment => ?_
  · refine w_bin (wv (rep := fun (g : Int × List Int) => fe g.1) (L' := fun g => [(n_, .lst (List.map em (g.2 : List Int)))]) ?_ fun d => we (ev_bin (ev_ap (ev_cons (ev_var rfl) ev_nil) (ev_len pk_fz)) ev_k ev_addI) (w_withS (rep := fe) (L' := fun z : List Int => [(n_, .lst (List.map em z))]) w_mod (fun _ o => o)))
    exact w_int1S (w_call (w_cons (we (ev_var rfl) (w_cons (we ev_k (w_nil (w_call1 0 (sp_l_draw world.2 18) rfl rfl rfl (fun _ => rfl))))))))
  refine ws_assoc ?_
  refine ws_set (rep := fun (g : Int × List Int) => fe g.1) (L' := fun g => [(n_, .lst (List.map em (g.2 : List Int)))]) ?_ fun method => ?_
  · exact w_call (w_cons (we (ev_var rfl) (w_cons (we ev_k (w_nil (w_call1 0 (sp_l_draw moment.2 2) rfl rfl rfl (fun _ => rfl)))))))
  refine ws_assoc ?_
  refine ws_set (rep := fun (g : P × List Int) => fe g.1) (L' := fun g => [(n_, .lst (List.map em (g.2 : List Int)))]) ?_ fun strange => ?_
  · refine w_bin (we (ev_ap (ev_cons ev_k (ev_cons ev_k (ev_cons ev_k (ev_cons ev_k (ev_cons ev_k (ev_cons ev_k (ev_cons ev_k (ev_cons ev_k (ev_cons ev_k (ev_cons ev_k (ev_cons ev_k ev_nil))))))))))) (ev_tup [.str "", .str "A", .str "a1", .str "abcdefghi", .str "a b", .str " a", .str "a ", .str "a-b", .str "0", .non, .int 5])) (wv (rep := fun (g : Int × List Int) => fe g.1) (L' := fun g => [(n_, .lst (List.map em (g.2 : List Int)))]) ?_ fun d => w_withS (rep := fun p : P => fe p) (L' := fun z : List Int => [(n_, .lst (List.map em z))]) (w_pix pk_fz) (fun _ o => o)))
    exact w_call (w_cons (we (ev_var rfl) (w_cons (we ev_k (w_nil (w_call1 0 (sp_l_draw method.2 11) rfl rfl rfl (fun _ => rfl)))))))
  refine ws_assoc ?_
  refine ws_set (rep := fun (g : Int × List Int) => fe g.1) (L' := fun g => [(n_, .lst (List.map em (g.2 : List Int)))]) ?_ fun finish => ?_
  · exact w_call (w_cons (we (ev_var rfl) (w_cons (we ev_k (w_nil (w_call1 0 (sp_l_draw strange.2 3) rfl rfl rfl (fun _ => rfl)))))))
  refine ws_assoc ?_
  refine ws_setO (c := "Gate") (fsOf := fun g : Gt => gtF g) (L' := fun _ => [(n_, .lst (List.map em (finish.2 : List Int)))]) (fun st o => w_newGate (X := XT) st o) fun g n6 => ?_
  refine ws_assoc ?_
  refine ws_ifG (bv := fun q : Bool × Gt => q.1) (L' := fun q => [(n_, .lst (List.map em (finish.2 : List Int))), (n6, gtT q.2)]) ?_ (fun q => ?_) (fun q => ?_)
  · refine w_orS (bv := fun q : Bool × Gt => !q.1) (L' := fun q => [(n_, .lst (List.map em (finish.2 : List Int))), (n6, gtT q.2)]) (ff := fun q : Bool × Gt => (true, q.2)) ?_ (fun q st o => ⟨rfl, o⟩) (fun q => ?_)
    · exact w_notS (w_truS (w_call (w_cons (we (ev_var rfl) (w_cons (we (ev_var rfl) (w_cons (we (ev_var rfl) (w_cons (we (ev_var rfl) (w_nil (wk_calm (X' := XT) (w_callO (as := [em world.1.b, em world.1.a, em method.1]) 1 (sp_l_walked g world.1.b world.1.a method.1) rfl rfl (gt_dep g) gt_dep (fun _ _ => trivial))))))))))))))
    · refine w_not (wv (rep := fun r : Bool × Gt => r.1) (L' := fun r => [(n_, .lst (List.map em (finish.2 : List Int))), (n6, gtT r.2)]) (w_truS ?_) fun r => fun st o => ⟨_, rfl, rfl, o⟩)
      exact w_call (w_cons (we (ev_var rfl) (w_cons (we (ev_var rfl) (w_cons (we (ev_var rfl) (w_cons (we (ev_var rfl) (w_nil (wk_calm (X' := XT) (w_callO (as := [em world.1.b, em world.1.a, strange.1]) 1 (sp_l_no_name q.2 world.1.b world.1.a strange.1) rfl rfl (gt_dep q.2) gt_dep (fun _ _ => trivial))))))))))))
  · exact ws_ret0 ev_k fun _ o => qf0 fz_fz o
  refine ws_skip ?_
  refine ws_assoc ?_
  refine ws_ifG (bv := fun b : Bool => !b) (L' := fun _ => [(n_, .lst (List.map em (finish.2 : List Int))), (n6, gtT q.2)]) ?_ (fun b => ?_) (fun b => ?_)
  · exact w_notS (w_truS (bv := fun b : Bool => b) (w_call (w_cons (we (ev_var rfl) (w_cons (we (ev_var rfl) (w_cons (we (ev_var rfl) (w_nil (wk_calm (X' := XT) (w_call0 (sp_l_twinned world.1.b world.1.a moment.1) rfl (fun _ _ => trivial))))))))))))
  · exact ws_ret0 ev_k fun _ o => qf0 fz_fz o
  refine ws_skip ?_
  refine ws_assoc ?_
  refine ws_ifG (bv := fun q : Bool × Gt => q.1) (L' := fun q => [(n_, .lst (List.map em (finish.2 : List Int))), (n6, gtT q.2)]) ?_ (fun q2 => ?_) (fun q2 => ?_)
  · refine w_andS (bv := fun b : Bool => b) (L' := fun _ => [(n_, .lst (List.map em (finish.2 : List Int))), (n6, gtT q.2)]) (ff := fun _ : Bool => (false, q.2)) (w_ev (rep := fun b : Bool => b) (ev_tru (ev_bin (ev_var rfl) ev_k (ev_eq (α := Int) pk_fz pk_fz)) ev_truB)) (fun _ st o => ⟨rfl, o⟩) (fun _ => ?_)
    refine w_truS (bv := fun q : Bool × Gt => q.1) (w_bin (wv (rep := fun r : Unit × Gt => fe r.1) (L' := fun r => [(n_, .lst (List.map em (finish.2 : List Int))), (n6, gtT r.2)]) ?_ fun r => we ev_k (fun st o => ⟨(fe false, st), rfl, rfl, o⟩)))
    exact w_methOb (kp := 1) (fs := gtF q.2) rfl (ev_var rfl) (by kernel_rfl) rfl (we ev_nil (wk_calm (X' := XT) (w_callO (as := []) 1 (sp_Gate_finish q.2) rfl rfl (gt_dep q.2) gt_dep (fun _ _ => trivial))))
  · exact ws_ret0 ev_k fun _ o => qf0 fz_fz o
  refine ws_skip ?_
  refine ws_assoc ?_
  refine ws_ifG (bv := fun q : Bool × Gt => q.1) (L' := fun q => [(n_, .lst (List.map em (finish.2 : List Int))), (n6, gtT q.2)]) ?_ (fun q3 => ?_) (fun q3 => ?_)
  · refine w_andS (bv := fun b : Bool => b) (L' := fun _ => [(n_, .lst (List.map em (finish.2 : List Int))), (n6, gtT q2.2)]) (ff := fun _ : Bool => (false, q2.2)) (w_ev (rep := fun b : Bool => b) (ev_tru (ev_bin (ev_var rfl) ev_k (ev_eq (α := Int) pk_fz pk_fz)) ev_truB)) (fun _ st o => ⟨rfl, o⟩) (fun _ => ?_)
    refine w_truS (bv := fun q : Bool × Gt => q.1) (w_bin (wv (rep := fun r : P × Gt => fe r.1) (L' := fun r => [(n_, .lst (List.map em (finish.2 : List Int))), (n6, gtT r.2)]) (w_take (kp := 1) (g := q2.2) rfl rfl (ev_ap (ev_cons ev_k ev_nil) (ev_tup [.str "finish"]))) fun r => we ev_k (fun st o => ⟨(fe (!r.1.isNon), st), rfl, rfl, o⟩)))
  · exact ws_ret0 ev_k fun _ o => qf0 fz_fz o
  refine ws_skip ?_
  refine ws_retQ (Q' := fun b a => a.1 = fe b) ?_ (fun b a h => ?_)
  · refine w_orV (L' := fun _ => [(n_, .lst (List.map em (finish.2 : List Int))), (n6, gtT q3.2)]) (w_ev (rep := fe) (ev_bin (ev_var rfl) ev_k (ev_eq (α := Int) pk_fz pk_fz))) (fun _ o => rfl) (wk_fst (L' := fun q => [(n_, .lst (List.map em (finish.2 : List Int))), (n6, gtT q.2)]) ?_)
    exact w_call (w_cons (we (ev_var rfl) (w_cons (we (ev_var rfl) (w_cons (we (ev_var rfl) (w_cons (we (ev_var rfl) (w_nil (wk_calm (X' := XT) (w_callO (as := [em world.1.b, em world.1.a, strange.1]) 1 (sp_l_ended q3.2 world.1.b world.1.a strange.1) rfl rfl (gt_dep q3.2) gt_dep (fun _ _ => trivial))))))))))))
  · obtain ⟨d, st⟩ := a
    have h : d = fe b := h
    subst h
    exact ⟨fe b, .inl rfl, st, rfl⟩
end G
end
section
set_option Elab.async false
set_option linter.all false
set_option maxRecDepth 100000
set_option maxHeartbeats 0
namespace N
open PySem L2 M
variable {α β γ δ σ ρ τ : Type}
def Gets (m : Rs α) (P : α → Prop) : Prop := ∃ a, m = .ok a ∧ P a
theorem gets_ok {a : α} {P : α → Prop} (h : P a) : Gets (.ok a) P := ⟨a, rfl, h⟩
theorem gets_eq {m : Rs α} {a : α} {P : α → Prop} (e : m = .ok a) (h : P a) : Gets m P := ⟨a, e, h⟩
theorem Gets.eq {m : Rs α} {a : α} (h : Gets m (· = a)) : m = .ok a := by obtain ⟨b, h1, h2⟩ := h; rw [h1, h2]
theorem Gets.mono {m : Rs α} {P Q : α → Prop} (h : Gets m P) (i : ∀ a, P a → Q a) : Gets m Q := let ⟨a, h1, h2⟩ := h; ⟨a, h1, i a h2⟩
theorem gets_bind {m : Rs α} {k : α → Rs β} {P : α → Prop} {Q : β → Prop} (h : Gets m P) (hk : ∀ a, P a → Gets (k a) Q) : Gets (m.bind k) Q := by
  obtain ⟨a, h1, h2⟩ := h
  rw [h1, ok_bind]
  exact hk a h2
theorem gets_bindE {m : Rs α} {k : α → Rs β} {a : α} {Q : β → Prop} (h : m = .ok a) (hk : Gets (k a) Q) : Gets (m.bind k) Q := by rw [h, ok_bind]; exact hk
theorem gets_if {b : Bool} {x y : Rs α} {Q : α → Prop} (h1 : b = true → Gets x Q) (h2 : b = false → Gets y Q) : Gets (if b = true then x else y) Q := by
  cases b
  · exact h2 rfl
  · exact h1 rfl
theorem gets_ifP {p : Prop} [Decidable p] {x y : Rs α} {Q : α → Prop} (h1 : p → Gets x Q) (h2 : ¬ p → Gets y Q) : Gets (if decide p = true then x else y) Q := gets_if (fun h => h1 (of_decide_eq_true h)) (fun h => h2 (of_decide_eq_false h))
theorem if_t {b : Bool} {x y r : Rs α} (hb : b = true) (h : x = r) : (if b = true then x else y) = r := by rw [if_pos hb]; exact h
theorem if_f {b : Bool} {x y r : Rs α} (hb : b = false) (h : y = r) : (if b = true then x else y) = r := by rw [hb]; exact h
theorem idx_nat {xs : List α} {k : Nat} {a : α} (h : xs[k]? = some a) : idx xs (k : Int) = .ok a := by
  unfold idx L2.atI L2.ixN
  have hl := (List.getElem?_eq_some_iff.mp h).1
  rw [if_pos (Int.natCast_nonneg k), if_pos (Int.ofNat_lt.mpr hl)]
  show (match xs[(k : Int).toNat]? with | some a => Rs.ok a | none => .stuck) = _
  rw [Int.toNat_natCast, h]
theorem idx_pos {xs : List α} {i : Int} {a : α} (hi : 0 ≤ i) (h : xs[i.toNat]? = some a) : idx xs i = .ok a := by
  have := idx_nat h
  rwa [Int.toNat_of_nonneg hi] at this
theorem idx_last {xs : List α} {a : α} (h : xs.getLast? = some a) : idx xs (-1) = .ok a := by
  have hl : xs ≠ [] := by rintro rfl; cases h
  have hp : 0 < xs.length := List.length_pos_iff.mpr hl
  unfold idx L2.atI L2.ixN
  rw [if_neg (by decide), if_pos (by omega)]
  show (match xs[((-1 : Int) + (xs.length : Int)).toNat]? with | some a => Rs.ok a | none => .stuck) = _
  rw [show ((-1 : Int) + (xs.length : Int)).toNat = xs.length - 1 by omega, ← List.getLast?_eq_getElem?, h]
theorem idx_head {xs : List α} {a : α} (h : xs.head? = some a) : idx xs 0 = .ok a := idx_nat (k := 0) (by rw [← List.head?_eq_getElem?]; exact h)
theorem idx_mem {xs : List α} {i : Int} (h0 : 0 ≤ i) (h1 : i < xs.length) : ∃ a, idx xs i = .ok a ∧ a ∈ xs ∧ xs[i.toNat]? = some a := by
  have hl : i.toNat < xs.length := by omega
  exact ⟨xs[i.toNat], idx_pos h0 (List.getElem?_eq_getElem hl), List.getElem_mem hl, List.getElem?_eq_getElem hl⟩
@[simp] theorem lenI_eq (xs : List α) : lenI xs = (xs.length : Int) := rfl
theorem app_ok {xs : List α} {x : α} (h : xs.length < 16777216) : app xs x = .ok (xs ++ [x]) := by unfold app; exact if_pos h
theorem cat_ok {xs ys : List α} (h : xs.length + ys.length ≤ 16777216) : cat xs ys = .ok (xs ++ ys) := by unfold cat; exact if_pos h
theorem small_of {b : Nat} {i : Int} (h1 : -((b : Int) + 1) ≤ i) (h2 : i ≤ b) : smallI b i = true := small_iff.mpr ⟨h1, h2⟩
theorem mulM_r {i j : Int} (h : -18446744073709551615 ≤ j ∧ j ≤ 18446744073709551614) : mulM i j = .ok (i * j) := by
  unfold mulM; exact if_pos (by rw [small_of (i := j) h.1 h.2, Bool.or_true])
theorem mulM_l {i j : Int} (h : -18446744073709551615 ≤ i ∧ i ≤ 18446744073709551614) : mulM i j = .ok (i * j) := by
  unfold mulM; exact if_pos (by rw [small_of (i := i) h.1 h.2, Bool.true_or])
theorem modM_ok {i j : Int} (h : 0 < j) : modM i j = .ok (i % j) := by unfold modM; exact if_pos h
theorem fdivM_ok {i j : Int} (h : 0 < j ∧ j < 1073741824) : fdivM i j = .ok (i / j) := by unfold fdivM; exact if_pos h
theorem rng1_nat {k : Nat} (h : k ≤ 1000000) : rng1 (k : Int) = .ok (rng 0 k) := by unfold rng1; rw [if_pos (small_of (by omega) (by omega)), Int.toNat_natCast]
theorem rng1_ok {z : Int} (h0 : 0 ≤ z) (h : z ≤ 1000000) : rng1 z = .ok (rng 0 z.toNat) := by
  have := rng1_nat (k := z.toNat) (by omega)
  rwa [Int.toNat_of_nonneg h0] at this
theorem rng_len (lo : Int) (n : Nat) : (rng lo n).length = n := by simp [rng]
@[simp] theorem unw_some (a : α) : unw (some a) = .ok a := rfl
@[simp] theorem calm_ok (a : α) : calm (.ok a) = .ok a := rfl
theorem sIx_none {n d : Nat} : HT.sIx n d none = d := rfl
theorem sIx_pos {n d : Nat} {v : Int} (h : 0 ≤ v) : HT.sIx n d (some v) = min v.toNat n := by
  exact if_neg (c := v < 0) (by omega)
theorem cut_take {xs : List α} {k : Int} (h : 0 ≤ k) : cut xs none (some k) = xs.take k.toNat := by
  unfold cut
  rw [sIx_none, sIx_pos h, List.drop_zero, Nat.sub_zero]
  rcases Nat.le_total k.toNat xs.length with h' | h'
  · rw [Nat.min_eq_left h']
  · rw [Nat.min_eq_right h', List.take_length, List.take_of_length_le h']
theorem cut_drop {xs : List α} {k : Int} (h : 0 ≤ k) : cut xs (some k) none = xs.drop k.toNat := by
  unfold cut
  rw [sIx_none, sIx_pos h]
  rcases Nat.le_total k.toNat xs.length with h' | h'
  · rw [Nat.min_eq_left h']; exact List.take_of_length_le (by simp)
  · rw [Nat.min_eq_right h', Nat.sub_self, List.take_zero, List.drop_eq_nil_of_le h']
@[simp] theorem foldRs_nil (f : σ → α → Rs σ) (s : σ) : foldRs f [] s = .ok s := rfl
theorem foldRs_cons (f : σ → α → Rs σ) (x : α) (xs : List α) (s : σ) : foldRs f (x :: xs) s = (f s x).bind (foldRs f xs) := rfl
/-- an invariant by what is done -/
theorem gets_fold {f : σ → α → Rs σ} (I : List α → σ → Prop) : ∀ (xs pre : List α) (s : σ), I pre s → (∀ p s x r, p ++ x :: r = pre ++ xs → I p s → Gets (f s x) (I (p ++ [x]))) → Gets (foldRs f xs s) (I (pre ++ xs))
  | [], pre, s, hi, _ => ⟨s, rfl, by rw [List.append_nil]; exact hi⟩
  | x :: xs, pre, s, hi, h => by
    rw [foldRs_cons]
    refine gets_bind (h pre s x xs rfl hi) fun s' hs' => ?_
    have e : pre ++ x :: xs = (pre ++ [x]) ++ xs := by simp
    rw [e]
    exact gets_fold I xs (pre ++ [x]) s' hs' fun p s y r hp hI => h p s y r (by rw [hp, e]) hI
/-- an invariant that speaks of the state alone -/
theorem gets_fold1 {f : σ → α → Rs σ} (I : σ → Prop) : ∀ (xs : List α) (s : σ), I s → (∀ s, I s → ∀ x ∈ xs, Gets (f s x) I) → Gets (foldRs f xs s) I
  | [], s, hi, _ => ⟨s, rfl, hi⟩
  | x :: xs, s, hi, h => by
    rw [foldRs_cons]
    exact gets_bind (h s hi x List.mem_cons_self) fun s' hs' => gets_fold1 I xs s' hs' fun s hs y hy => h s hs y (List.mem_cons_of_mem _ hy)
@[simp] theorem loopRs_nil (f : σ → α → Rs (LC σ ρ)) (s : σ) : loopRs f [] s = .ok (.inl s) := rfl
mutual
theorem eqv_refl : ∀ d : PyData, d.canLay0 = true → PyData.eqv d d = true
  | .none, _ => rfl
  | .bool b, _ => by simp [PyData.eqv]
  | .int i, _ => by simp [PyData.eqv]
  | .str x, _ => by simp [PyData.eqv]
  | .list xs, h => by rw [PyData.eqv]; exact eqvAll_refl xs (by simpa [PyData.canLay0] using h)
  | .tuple xs, h => by rw [PyData.eqv]; exact eqvAll_refl xs (by simpa [PyData.canLay0] using h)
  | .dict _, h => by simp [PyData.canLay0] at h
theorem eqvAll_refl : ∀ xs : List PyData, PyData.canLayAll0 xs = true → PyData.eqvAll xs xs = true
  | [], _ => rfl
  | x :: xs, h => by
    rw [PyData.canLayAll0, Bool.and_eq_true] at h
    rw [PyData.eqvAll, eqv_refl x h.1, eqvAll_refl xs h.2]; rfl
end
theorem eqP_self {p : P} (h : shP p = true) : eqP p p = true := eqv_refl _ (Bool.and_eq_true_iff.mp h).1
theorem neM_self {p : P} (h : shP p = true) : neM p p = .ok false := by unfold neM; rw [if_pos ⟨h, h⟩, eqP_self h]; rfl
theorem eqM_self {p : P} (h : shP p = true) : eqM p p = .ok true := by unfold eqM; rw [if_pos ⟨h, h⟩, eqP_self h]
end N
end
section
set_option Elab.async false
set_option linter.all false
set_option maxRecDepth 100000
set_option maxHeartbeats 0
namespace G
open PySem L2 M N
theorem draw_ok {s : List Int} {n : Int} (h : 0 < n) : n_l_draw s n = .ok (drawV s n, drawS s) := if_pos h
theorem gets_draw {s : List Int} {n : Int} (h : 0 < n) : Gets (n_l_draw s n) fun g => 0 ≤ g.1 ∧ g.1 < n := gets_eq (draw_ok h) (drawV_bd h)
theorem gets_pick {α : Type} {s : List Int} {n : Int} {xs : List α} (h : 0 < n) (hl : n ≤ xs.length) : Gets ((n_l_draw s n).bind fun g_ => (N.idx xs g_.1).bind fun v => Rs.ok (v, g_.2)) fun g => g.1 ∈ xs := by
  refine gets_bind (gets_draw h) fun g hg => ?_
  obtain ⟨a, e1, e2, _⟩ := N.idx_mem (xs := xs) hg.1 (by omega)
  exact gets_bindE e1 (gets_ok e2)
def Cn (k : Nat) (p : P) : Prop := PyData.canLay0 (toPy p) = true ∧ PyData.depth (toPy p) ≤ k
theorem cn_sh {k : Nat} {p : P} (h : Cn k p) (hk : k ≤ 64 := by decide) : shP p = true := by
  unfold shP SeqAt.shaped
  rw [h.1, decide_eq_true (Nat.le_trans h.2 hk)]; rfl
theorem cn_ps {k : Nat} : ∀ ps : List P, (∀ p ∈ ps, Cn k p) → PyData.canLayAll0 (toPys ps) = true ∧ PyData.depthAll (toPys ps) ≤ k
  | [], _ => ⟨rfl, Nat.zero_le _⟩
  | p :: ps, h => by
    obtain ⟨h1, h2⟩ := h p List.mem_cons_self
    obtain ⟨h3, h4⟩ := cn_ps ps fun q hq => h q (List.mem_cons_of_mem _ hq)
    rw [toPys, PyData.canLayAll0, PyData.depthAll, h1, h3]
    exact ⟨rfl, Nat.max_le.mpr ⟨h2, h4⟩⟩
theorem cn_tup {k : Nat} {ps : List P} (h : ∀ p ∈ ps, Cn k p) : Cn (k + 1) (.tup ps) := by
  obtain ⟨h1, h2⟩ := cn_ps ps h
  refine ⟨?_, ?_⟩
  · rw [toPy, PyData.canLay0]; exact h1
  · rw [toPy, PyData.depth]; omega
theorem cn_lst {k : Nat} {ps : List P} (h : ∀ p ∈ ps, Cn k p) : Cn (k + 1) (.lst ps) := by
  obtain ⟨h1, h2⟩ := cn_ps ps h
  refine ⟨?_, ?_⟩
  · rw [toPy, PyData.canLay0]; exact h1
  · rw [toPy, PyData.depth]; omega
theorem Cn.up {k j : Nat} {p : P} (h : Cn k p) (hk : k ≤ j := by decide) : Cn j p := ⟨h.1, Nat.le_trans h.2 hk⟩
def Sk (s : Str) : Prop := ∀ c ∈ TL.tl s, c < 256
theorem cn_str {s : Str} (h : Sk s) : Cn 0 (.str s) := by
  refine ⟨?_, Nat.le_refl _⟩
  rw [toPy, PyData.canLay0]
  unfold PyData.strOk
  rw [← Array.all_toList]
  exact List.all_eq_true.mpr fun c hc => decide_eq_true (by have := h c hc; omega)
theorem cn_int (i : Int) : Cn 0 (.int i) := ⟨rfl, Nat.le_refl _⟩
theorem eqv_str (s t : Str) : PyData.eqv (.str s) (.str t) = decide (s = t) := by
  rw [PyData.eqv]; rfl
theorem eqM_str {s t : Str} (h1 : Sk s) (h2 : Sk t) : eqM (em s) (em t) = .ok (decide (s = t)) := by
  unfold eqM
  rw [if_pos ⟨cn_sh (cn_str h1), cn_sh (cn_str h2)⟩]
  exact congrArg Rs.ok (eqv_str s t)
theorem cn_bl (b : Bool) : Cn 0 (.bl b) := ⟨rfl, Nat.le_refl _⟩
theorem cn_non : Cn 0 .non := ⟨rfl, Nat.le_refl _⟩
/-- shaped, and equal to itself -/
structure Sf (p : P) : Prop where
  cn : Cn 9 p
  eq : eqP p p = true
theorem sf_int (i : Int) : Sf (.int i) := ⟨(cn_int i).up, by show PyData.eqv (.int i) (.int i) = true; rw [PyData.eqv]; exact decide_eq_true rfl⟩
theorem sf_bl (b : Bool) : Sf (.bl b) := ⟨(cn_bl b).up, by cases b <;> decide⟩
theorem sf_str {s : Str} (h : Sk s) : Sf (.str s) := ⟨(cn_str h).up, by show PyData.eqv (.str s) (.str s) = true; rw [eqv_str]; exact decide_eq_true rfl⟩
theorem eqs_self : ∀ ps : List P, (∀ p ∈ ps, eqP p p = true) → PyData.eqvAll (toPys ps) (toPys ps) = true
  | [], _ => by rw [toPys, PyData.eqvAll]
  | p :: ps, h => by
    rw [toPys, PyData.eqvAll, eqs_self ps fun q hq => h q (List.mem_cons_of_mem _ hq)]
    have : PyData.eqv (toPy p) (toPy p) = true := h p List.mem_cons_self
    rw [this]; rfl
theorem eq_tup {ps : List P} (h : ∀ p ∈ ps, eqP p p = true) : eqP (.tup ps) (.tup ps) = true := by
  show PyData.eqv (.tuple (toPys ps)) (.tuple (toPys ps)) = true
  rw [PyData.eqv]; exact eqs_self ps h
theorem eq_lst {ps : List P} (h : ∀ p ∈ ps, eqP p p = true) : eqP (.lst ps) (.lst ps) = true := by
  show PyData.eqv (.list (toPys ps)) (.list (toPys ps)) = true
  rw [PyData.eqv]; exact eqs_self ps h
structure S0 (k : Nat) (p : P) : Prop where
  cn : Cn k p
  eq : eqP p p = true
theorem S0.sf {k : Nat} {p : P} (h : S0 k p) (hk : k ≤ 9 := by decide) : Sf p := ⟨h.cn.up hk, h.eq⟩
theorem s0_int (i : Int) : S0 0 (.int i) := ⟨cn_int i, (sf_int i).eq⟩
theorem s0_bl (i : Bool) : S0 0 (.bl i) := ⟨cn_bl i, (sf_bl i).eq⟩
theorem s0_non : S0 0 .non := ⟨cn_non, rfl⟩
theorem s0_str {s : Str} (h : Sk s) : S0 0 (.str s) := ⟨cn_str h, (sf_str h).eq⟩
theorem s0_tup {k : Nat} {ps : List P} (h : ∀ p ∈ ps, S0 k p) : S0 (k + 1) (.tup ps) := ⟨cn_tup fun p hp => (h p hp).cn, eq_tup fun p hp => (h p hp).eq⟩
theorem s0_lst {k : Nat} {ps : List P} (h : ∀ p ∈ ps, S0 k p) : S0 (k + 1) (.lst ps) := ⟨cn_lst fun p hp => (h p hp).cn, eq_lst fun p hp => (h p hp).eq⟩
theorem eqM_self {p : P} (h : Sf p) : eqM p p = .ok true := by
  unfold eqM
  rw [if_pos ⟨cn_sh h.cn, cn_sh h.cn⟩, h.eq]
theorem neM_self {p : P} (h : Sf p) : neM p p = .ok false := by
  unfold neM
  rw [if_pos ⟨cn_sh h.cn, cn_sh h.cn⟩, h.eq]; rfl
def okS : List Str := ["a", "b", "ab", "k", "kk", "kkkkkkkk", "zz", "zza", "zzz", "event", "raise", "finish", "yard", "name", "finished", "", "A", "a1", "abcdefghi", "a b", " a", "a ", "a-b", "0"]
theorem okS_sk : ∀ s ∈ okS, Sk s := by
  have h : (okS.all fun s => (TL.tl s).all fun c => decide (c < 256)) = true := by decide +kernel
  intro s hs c hc
  exact of_decide_eq_true (List.all_eq_true.mp (List.all_eq_true.mp h s hs) c hc)
theorem okS_kn : ∀ s ∈ knN, s ∈ okS := by decide +kernel
theorem okS_bd : ∀ s ∈ bdN, s ∈ okS := by decide +kernel
theorem kn_sk {s : Str} (h : s ∈ knN) : Sk s := okS_sk s (okS_kn s h)
theorem sf_bad {p : P} (h : bdB p = true) : S0 0 p := by
  cases p with
  | str s => exact s0_str (okS_sk s (okS_bd s (of_decide_eq_true h)))
  | non => exact s0_non
  | int i => exact s0_int i
  | _ => cases h
end G
end
section
set_option Elab.async false
set_option linter.all false
set_option maxRecDepth 100000
set_option maxHeartbeats 0
namespace G
open PySem L2 M N
inductive Dd where
  | ev (k : Str) (t v : Int)
  | rs (t : Int)
  | yd (p : P)
  | fin
def dP : Dd → P
  | .ev k t v => .tup [.str "event", .str k, .int t, .int v]
  | .rs t => .tup [.str "raise", .int t]
  | .yd p => .tup [.str "yard", p]
  | .fin => .tup [.str "finish"]
def tgD : Dd → Str
  | .ev _ _ _ => "event"
  | .rs _ => "raise"
  | .yd _ => "yard"
  | .fin => "finish"
/-- its key is a name -/
def Dk : Dd → Prop
  | .ev k _ _ => k ∈ knN
  | _ => True
abbrev rowOf (g : Gt) (k : Str) : List LtG := (kget k g.lets).getD []
def upB (row : List LtG) (t : Int) : Bool := match row.getLast? with
  | none => true
  | some r => decide (r.b ≤ t)
def loB (fl : Option Int) (t : Int) : Bool := match fl with
  | none => false
  | some f => decide (t < f)
def inB (g : Gt) (k : Str) (t : Int) : Bool := !loB g.fl t && upB (rowOf g k) t
def hiB (fl : Option Int) (t : Int) : Bool := match fl with
  | none => true
  | some f => decide (f < t)
def stp (g : Gt) : Dd → Gt
  | .ev k t v => if inB g k t = true then { g with lets := kput k (rowOf g k ++ [⟨lenI (rowOf g k), t, v⟩]) g.lets } else { g with late := g.late ++ [⟨k, t, v⟩] }
  | .rs t => if hiB g.fl t = true then { g with fl := some t, cnt := cntsOf g.lets } else g
  | .yd _ => g
  | .fin => { g with fin := true }
def runG (ds : List Dd) (g : Gt) : Gt := ds.foldl stp g
structure Iv (n : Nat) (g : Gt) : Prop where
  keys : ∀ x ∈ g.lets, x.a ∈ knN
  nd : (g.lets.map (·.a)).Nodup
  len : g.lets.length ≤ n
  rows : ∀ x ∈ g.lets, x.b.length ≤ n
  lt : g.late.length ≤ n
  lk : ∀ e ∈ g.late, e.a ∈ knN
  cnd : (g.cnt.map (·.a)).Nodup
  cl : g.cnt.length ≤ n
theorem iv0 : Iv 0 g0 := ⟨fun _ h => (by cases h), List.nodup_nil, Nat.le_refl _, fun _ h => (by cases h), Nat.le_refl _, fun _ h => (by cases h), List.nodup_nil, Nat.le_refl _⟩
theorem kget_mem {α : Type} {k : Str} {v : α} : ∀ {ys : List (T2 Str α)}, kget k ys = some v → (⟨k, v⟩ : T2 Str α) ∈ ys
  | x :: r, h => by
    unfold kget at h
    by_cases c : x.a = k
    · rw [if_pos c] at h
      cases h; cases c
      exact List.mem_cons_self
    · rw [if_neg c] at h
      exact List.mem_cons_of_mem _ (kget_mem h)
theorem kput_mem {α : Type} [Em α] {k : Str} {v : α} {y : T2 Str α} : ∀ {ys : List (T2 Str α)}, y ∈ kput k v ys → y = ⟨k, v⟩ ∨ y ∈ ys
  | [], h => .inl (List.mem_singleton.mp h)
  | x :: r, h => by
    unfold kput at h
    by_cases c : x.a = k
    · rw [if_pos c] at h
      rcases List.mem_cons.mp h with h | h
      · exact .inl (by rw [h, c])
      · exact .inr (List.mem_cons_of_mem _ h)
    · rw [if_neg c] at h
      rcases List.mem_cons.mp h with h | h
      · exact .inr (by rw [h]; exact List.mem_cons_self)
      · exact (kput_mem h).imp id (List.mem_cons_of_mem _)
theorem kput_keys {α : Type} [Em α] (k : Str) (v : α) : ∀ ys : List (T2 Str α), (kput k v ys).map (·.a) = if k ∈ ys.map (·.a) then ys.map (·.a) else ys.map (·.a) ++ [k]
  | [] => by rw [List.map_nil, if_neg (by simp)]; rfl
  | x :: r => by
    unfold kput
    by_cases c : x.a = k
    · rw [if_pos c, if_pos (by rw [List.map_cons, c]; exact List.mem_cons_self)]; rfl
    · rw [if_neg c, List.map_cons, kput_keys k v r, List.map_cons]
      by_cases c2 : k ∈ r.map (·.a)
      · rw [if_pos c2, if_pos (List.mem_cons_of_mem _ c2)]
      · rw [if_neg c2, if_neg (by
          intro h
          rcases List.mem_cons.mp h with h | h
          · exact c h.symm
          · exact c2 h)]; rfl
theorem kput_len {α : Type} [Em α] (k : Str) (v : α) : ∀ ys : List (T2 Str α), (kput k v ys).length ≤ ys.length + 1
  | [] => Nat.le_refl _
  | x :: r => by
    unfold kput
    by_cases c : x.a = k
    · rw [if_pos c]; show r.length + 1 ≤ r.length + 1 + 1; omega
    · rw [if_neg c]; exact Nat.succ_le_succ (kput_len k v r)
theorem Iv.row {n : Nat} {g : Gt} (h : Iv n g) (k : Str) : (rowOf g k).length ≤ n := by
  unfold rowOf
  cases e : kget k g.lets with
  | none => exact Nat.zero_le _
  | some v => exact h.rows _ (kget_mem e)
theorem Iv.step {n : Nat} {g : Gt} {d : Dd} (h : Iv n g) (hd : Dk d) : Iv (n + 1) (stp g d) := by
  have up : Iv (n + 1) g := ⟨h.keys, h.nd, by have := h.len; omega, fun x hx => by have := h.rows x hx; omega, by have := h.lt; omega, h.lk, h.cnd, by have := h.cl; omega⟩
  cases d with
  | yd p => exact up
  | fin => exact ⟨up.keys, up.nd, up.len, up.rows, up.lt, up.lk, up.cnd, up.cl⟩
  | rs t =>
    show Iv (n + 1) (if hiB g.fl t = true then { g with fl := some t, cnt := cntsOf g.lets } else g)
    by_cases c : hiB g.fl t = true
    · rw [if_pos c]
      refine ⟨up.keys, up.nd, up.len, up.rows, up.lt, up.lk, ?_, ?_⟩
      · have : (cntsOf g.lets).map (·.a) = g.lets.map (·.a) := by unfold cntsOf; rw [List.map_map]; rfl
        show ((cntsOf g.lets).map (·.a)).Nodup
        rw [this]; exact h.nd
      · show (cntsOf g.lets).length ≤ n + 1
        unfold cntsOf; rw [List.length_map]; exact up.len
    · rw [if_neg c]; exact up
  | ev k t v =>
    show Iv (n + 1) (if inB g k t = true then { g with lets := kput k (rowOf g k ++ [⟨lenI (rowOf g k), t, v⟩]) g.lets } else { g with late := g.late ++ [⟨k, t, v⟩] })
    by_cases c : inB g k t = true
    · rw [if_pos c]
      refine ⟨fun x hx => ?_, ?_, ?_, fun x hx => ?_, up.lt, up.lk, up.cnd, up.cl⟩
      · rcases kput_mem hx with rfl | hx
        · exact hd
        · exact h.keys x hx
      · show ((kput k _ g.lets).map (·.a)).Nodup
        rw [kput_keys]
        by_cases c2 : k ∈ g.lets.map (·.a)
        · rw [if_pos c2]; exact h.nd
        · rw [if_neg c2]
          exact List.nodup_append.mpr ⟨h.nd, by simp, fun a ha b hb e => c2 (by rw [← List.mem_singleton.mp hb, ← e]; exact ha)⟩
      · exact Nat.le_trans (kput_len _ _ _) (Nat.succ_le_succ h.len)
      · rcases kput_mem hx with rfl | hx
        · show (rowOf g k ++ [_]).length ≤ n + 1
          rw [List.length_append]
          exact Nat.succ_le_succ (h.row k)
        · exact up.rows x hx
    · rw [if_neg c]
      refine ⟨up.keys, up.nd, up.len, up.rows, ?_, fun e he => ?_, up.cnd, up.cl⟩
      · show (g.late ++ [_]).length ≤ n + 1
        rw [List.length_append]
        exact Nat.succ_le_succ h.lt
      · rcases List.mem_append.mp he with he | he
        · exact h.lk e he
        · rw [List.mem_singleton.mp he]; exact hd
theorem Iv.runG {n : Nat} {g : Gt} : ∀ {ds : List Dd}, (∀ d ∈ ds, Dk d) → Iv n g → Iv (n + ds.length) (runG ds g) := fun {ds} => by
  induction ds generalizing n g with
  | nil => exact fun _ h => h
  | cons d ds ih =>
    intro hd h
    have := ih (n := n + 1) (g := stp g d) (fun x hx => hd x (List.mem_cons_of_mem _ hx)) (h.step (hd d List.mem_cons_self))
    rw [List.length_cons, show n + (ds.length + 1) = n + 1 + ds.length by omega]
    exact this
theorem stp_fin {g : Gt} {d : Dd} (h : d ≠ .fin) : (stp g d).fin = g.fin := by
  cases d with
  | ev k t v => unfold stp; dsimp only; split <;> rfl
  | rs t => unfold stp; dsimp only; split <;> rfl
  | yd p => rfl
  | fin => exact (h rfl).elim
theorem run_fin : ∀ {ds : List Dd} {g : Gt}, (∀ d ∈ ds, d ≠ .fin) → (runG ds g).fin = g.fin
  | [], g, _ => rfl
  | d :: ds, g, h => by
    show (runG ds (stp g d)).fin = _
    rw [run_fin fun x hx => h x (List.mem_cons_of_mem _ hx), stp_fin (h d List.mem_cons_self)]
theorem dp_tag (d : Dd) : pixP (dP d) 0 = .ok (.str (tgD d)) := by cases d <;> rfl
theorem tg_in : ∀ s ∈ (["event", "raise", "yard", "finish"] : List Str), s ∈ okS := by decide +kernel
theorem tg_4 (d : Dd) : tgD d ∈ (["event", "raise", "yard", "finish"] : List Str) := by
  cases d
  · exact .head _
  · exact .tail _ (.head _)
  · exact .tail _ (.tail _ (.head _))
  · exact .tail _ (.tail _ (.tail _ (.head _)))
theorem tg_ok (d : Dd) : tgD d ∈ okS := tg_in _ (tg_4 d)
def isE : Dd → Bool
  | .ev _ _ _ => true
  | _ => false
def isR : Dd → Bool
  | .rs _ => true
  | _ => false
def isF : Dd → Bool
  | .fin => true
  | _ => false
theorem tgL : ((["event", "raise", "yard", "finish"] : List Str).map fun s : Str => decide (s = "event")) = [true, false, false, false] ∧ ((["event", "raise", "yard", "finish"] : List Str).map fun s : Str => decide (s = "raise")) = [false, true, false, false] ∧ ((["event", "raise", "yard", "finish"] : List Str).map fun s : Str => decide (s = "finish")) = [false, false, false, true] := by decide +kernel
theorem l4 {a b c d a' b' c' d' : Bool} (h : [a, b, c, d] = [a', b', c', d']) : a = a' ∧ b = b' ∧ c = c' ∧ d = d' := by
  injection h with h1 h; injection h with h2 h; injection h with h3 h; injection h with h4 h
  exact ⟨h1, h2, h3, h4⟩
theorem tag_eq (d : Dd) {s : Str} (hs : s ∈ okS) : tagM (dP d) s = .ok (decide (tgD d = s)) := by
  unfold tagM
  rw [dp_tag, ok_bind]
  show ((eqM (em (tgD d)) (em s)).bind fun g_ => Rs.ok g_) = _
  rw [eqM_str (okS_sk _ (tg_ok d)) (okS_sk _ hs)]; rfl
theorem tagE (d : Dd) : tagM (dP d) "event" = .ok (isE d) := by
  obtain ⟨h1, h2, h3, h4⟩ := l4 tgL.1
  rw [tag_eq d (by decide +kernel)]
  cases d
  · exact congrArg Rs.ok h1
  · exact congrArg Rs.ok h2
  · exact congrArg Rs.ok h3
  · exact congrArg Rs.ok h4
theorem tagR (d : Dd) : tagM (dP d) "raise" = .ok (isR d) := by
  obtain ⟨h1, h2, h3, h4⟩ := l4 tgL.2.1
  rw [tag_eq d (by decide +kernel)]
  cases d
  · exact congrArg Rs.ok h1
  · exact congrArg Rs.ok h2
  · exact congrArg Rs.ok h3
  · exact congrArg Rs.ok h4
theorem tagF (d : Dd) : tagM (dP d) "finish" = .ok (isF d) := by
  obtain ⟨h1, h2, h3, h4⟩ := l4 tgL.2.2
  rw [tag_eq d (by decide +kernel)]
  cases d
  · exact congrArg Rs.ok h1
  · exact congrArg Rs.ok h2
  · exact congrArg Rs.ok h3
  · exact congrArg Rs.ok h4
theorem ev_1 {k : Str} {t v : Int} : ixS (dP (.ev k t v)) 1 = .ok k := rfl
theorem ev_2 {k : Str} {t v : Int} : ixI (dP (.ev k t v)) 2 = .ok t := rfl
theorem ev_3 {k : Str} {t v : Int} : ixI (dP (.ev k t v)) 3 = .ok v := rfl
theorem rs_1 {t : Int} : ixI (dP (.rs t)) 1 = .ok t := rfl
theorem ev_p1 {k : Str} {t v : Int} : pixP (dP (.ev k t v)) 1 = .ok (.str k) := rfl
theorem up_idx {row : List LtG} {t : Int} : ((Rs.ok (!row.isEmpty)).bind fun b => if b = true then (((Rs.ok t).bind fun t => ((N.idx row (-1)).bind fun r => Rs.ok r.b).bind fun l => Rs.ok (decide (t < l))).bind fun g_ => Rs.ok g_) else Rs.ok false) = .ok (!upB row t) := by
  unfold upB
  cases e : row.getLast? with
  | none =>
    have : row = [] := List.getLast?_eq_none_iff.mp e
    subst this; rfl
  | some r =>
    have hne : row ≠ [] := fun h => by subst h; cases e
    have : (!row.isEmpty) = true := by cases row with | nil => exact (hne rfl).elim | cons _ _ => rfl
    rw [this, ok_bind, if_pos rfl, ok_bind, idx_last e]
    show Rs.ok (decide (t < r.b)) = Rs.ok (!decide (r.b ≤ t))
    by_cases c : r.b ≤ t
    · rw [decide_eq_true c, decide_eq_false (by omega)]; rfl
    · rw [decide_eq_false c, decide_eq_true (by omega)]; rfl
theorem nd_ok {g : Gt} {n : Nat} (h : Iv n g) (hn : n ≤ 1000) {k : Str} {v : List LtG} : putK9 g.lets k v = .ok (kput k v g.lets) := by
  unfold putK9
  rw [if_pos ⟨by rw [ndK_kv]; exact decide_eq_true h.nd, by have := h.len; omega⟩]
theorem cnt_okM {g : Gt} {n : Nat} (h : Iv n g) (hn : n ≤ 1000) : cntM g.lets = .ok (cntsOf g.lets) := by
  unfold cntM
  rw [if_pos ⟨h.nd, by have := h.len; omega⟩]
theorem gate1_ok {g : Gt} {n : Nat} (h : Iv n g) (hn : n ≤ 1000) {d : Dd} : n_l_gate_1 g (dP d) = .ok (stp g d) := by
  unfold n_l_gate_1
  cases d with
  | yd p =>
    unfold gs1 gs2 gs3
    rw [tagR]; simp only [isR, ok_bind]
    simp only [Bool.false_eq_true, if_false, ok_bind, tagF, tagE, isF, isE]
    rfl
  | fin =>
    unfold gs1 gs2 gs3
    rw [tagR]; simp only [isR, ok_bind]
    simp only [Bool.false_eq_true, if_false, ok_bind, tagF, tagE, isF, isE, if_true]
    rfl
  | rs t =>
    unfold gs1 gs2 gs3
    rw [tagR]; simp only [isR, ok_bind, if_true, rs_1]
    have e : ((if g.fl.isNone = true then Rs.ok true else ((unw g.fl).bind fun f => Rs.ok (decide (f < t))).bind fun g_ => Rs.ok g_) : Rs Bool) = .ok (hiB g.fl t) := by
      unfold hiB
      cases g.fl <;> rfl
    rw [e]; simp only [ok_bind]
    unfold stp
    dsimp only
    by_cases c : hiB g.fl t = true
    · rw [if_pos c, if_pos c, cnt_okM h hn]
      simp only [ok_bind, tagF, tagE, isF, isE, Bool.false_eq_true, if_false]
    · rw [if_neg c, if_neg c]
      simp only [ok_bind, tagF, tagE, isF, isE, Bool.false_eq_true, if_false]
  | ev k t v =>
    unfold gs1 gs2 gs3
    rw [tagR]; simp only [isR, ok_bind, Bool.false_eq_true, if_false, tagF, tagE, isF, isE, if_true, ev_1, ev_2, ev_3]
    have e : ((if g.fl.isSome = true then ((unw g.fl).bind fun f => Rs.ok (decide (t < f))).bind fun g_ => Rs.ok g_ else Rs.ok false) : Rs Bool) = .ok (loB g.fl t) := by
      unfold loB
      cases g.fl <;> rfl
    rw [e]; simp only [ok_bind]
    have e2 := up_idx (row := rowOf g k) (t := t)
    simp only [ok_bind] at e2
    unfold rowOf at e2
    rw [e2]
    unfold stp inB
    dsimp only
    have hr := h.row k
    have hl := h.lt
    cases c1 : loB g.fl t with
    | true =>
      simp only [if_true, ok_bind, Bool.not_true, Bool.false_and, Bool.false_eq_true, if_false]
      rw [N.app_ok (by omega)]; rfl
    | false =>
      simp only [Bool.false_eq_true, if_false, Bool.not_false, Bool.true_and, ok_bind]
      cases c2 : upB (rowOf g k) t with
      | false =>
        simp only [Bool.not_false, if_true, Bool.false_eq_true, if_false]
        rw [N.app_ok (by omega)]; rfl
      | true =>
        simp only [Bool.not_true, Bool.false_eq_true, if_false, if_true]
        rw [cat_ok (by simp; unfold rowOf at hr; omega), ok_bind, nd_ok h hn]; rfl
theorem gate_fold : ∀ {ds : List Dd} {g : Gt} {n : Nat}, Iv n g → n + ds.length ≤ 1000 → (∀ d ∈ ds, Dk d) → foldRs n_l_gate_1 (ds.map dP) g = .ok (runG ds g)
  | [], g, n, _, _, _ => rfl
  | d :: ds, g, n, h, hn, hd => by
    rw [List.length_cons] at hn
    show (n_l_gate_1 g (dP d)).bind _ = _
    rw [gate1_ok h (by omega), ok_bind]
    exact gate_fold (h.step (hd d List.mem_cons_self)) (by omega) fun x hx => hd x (List.mem_cons_of_mem _ hx)
theorem gate_ok {ds : List Dd} (hl : ds.length ≤ 900) (hd : ∀ d ∈ ds, Dk d) : n_l_gate (ds.map dP) = .ok (runG ds g0) := by
  unfold n_l_gate
  rw [gate_fold iv0 (by omega) hd]; rfl
end G
end
section
set_option Elab.async false
set_option linter.all false
set_option maxRecDepth 100000
set_option maxHeartbeats 0
namespace G
open PySem L2 M N
theorem isn_kn {k : Str} (h : k ∈ knN) : n_is_name (.str k) = .ok true := if_pos (show knB (.str k) = true from decide_eq_true h)
theorem chk_kn {k : Str} (h : k ∈ knN) : n_check_name (.str k) = .ok () := if_pos (show knB (.str k) = true from decide_eq_true h)
theorem bd_kn : ∀ s ∈ bdN, s ∉ knN := by decide +kernel
theorem bd_not {p : P} (h : bdB p = true) : knB p = false := by
  cases p with
  | str s => exact decide_eq_false (bd_kn s (of_decide_eq_true h))
  | non => rfl
  | int i => rfl
  | _ => cases h
theorem isn_bd {p : P} (h : bdB p = true) : n_is_name p = .ok false := by
  unfold n_is_name
  rw [bd_not h, h]; rfl
theorem chk_bd {p : P} (h : bdB p = true) : n_check_name p = .exc "BadName" (some [("name", p)]) := by
  unfold n_check_name
  rw [bd_not h, h]; rfl
theorem late_ok {row : List LtG} {t : Int} : lateB row t = .ok (upB row t) := by
  unfold lateB upB
  cases e : row.getLast? with
  | none =>
    have : row = [] := List.getLast?_eq_none_iff.mp e
    subst this; rfl
  | some r =>
    have hne : row ≠ [] := fun h => by subst h; cases e
    rw [decide_eq_false hne, ok_bind, if_neg (by simp), idx_last e]; rfl
theorem lets_ok {g : Gt} {k : Str} {t : Int} (hf : g.fin = false) (hk : k ∈ knN) : n_Gate_lets_in g (.str k) t = .ok (inB g k t) := by
  unfold n_Gate_lets_in inB
  rw [hf, isn_kn hk]
  simp only [ok_bind, Bool.false_eq_true, if_false, Bool.not_true]
  have e : ((if g.fl.isSome = true then ((unw g.fl).bind fun f => Rs.ok (decide (t < f))).bind fun g_ => Rs.ok g_ else Rs.ok false) : Rs Bool) = .ok (loB g.fl t) := by
    unfold loB
    cases g.fl <;> rfl
  rw [e]
  simp only [ok_bind]
  cases loB g.fl t with
  | true => rfl
  | false =>
    simp only [Bool.false_eq_true, if_false, Bool.not_false, Bool.true_and]
    show lateB (rowOf g k) t = _
    rw [late_ok]
theorem lets_fin {g : Gt} {p : P} {t : Int} (hf : g.fin = true) : n_Gate_lets_in g p t = .ok false := by
  unfold n_Gate_lets_in
  rw [hf]; rfl
theorem lets_bd {g : Gt} {p : P} {t : Int} (h : bdB p = true) : n_Gate_lets_in g p t = .ok false := by
  unfold n_Gate_lets_in
  rw [isn_bd h]
  cases g.fin <;> rfl
theorem llets_ok {g : Gt} {k : Str} {t : Int} (hf : g.fin = false) : n_l_lets g k t = .ok (inB g k t) := by
  unfold n_l_lets inB
  rw [ok_bind, ok_bind, hf]
  simp only [ok_bind, Bool.false_eq_true, if_false]
  have e : ((if g.fl.isSome = true then ((unw g.fl).bind fun f => Rs.ok (decide (t < f))).bind fun g_ => Rs.ok g_ else Rs.ok false) : Rs Bool) = .ok (loB g.fl t) := by
    unfold loB
    cases g.fl <;> rfl
  rw [e]
  simp only [ok_bind]
  cases loB g.fl t with
  | true => rfl
  | false =>
    simp only [Bool.false_eq_true, if_false, Bool.not_false, Bool.true_and]
    unfold upB
    show (if decide (lenI (rowOf g k) = 0) = true then Rs.ok true else _) = _
    cases e : (rowOf g k).getLast? with
    | none =>
      have : rowOf g k = [] := List.getLast?_eq_none_iff.mp e
      rw [this]; rfl
    | some r =>
      have hne : rowOf g k ≠ [] := fun h => by rw [h] at e; cases e
      have hl : lenI (rowOf g k) ≠ 0 := fun h => hne (List.length_eq_zero_iff.mp (by unfold lenI at h; omega))
      rw [if_neg (by rw [decide_eq_false hl]; simp)]
      show ((N.idx (rowOf g k) (-1)).bind fun r => Rs.ok r.b).bind _ = _
      rw [idx_last e]; rfl
theorem event_ok {g : Gt} {n : Nat} (h : Iv n g) (hn : n ≤ 1000) {k : Str} {t v : Int} (hf : g.fin = false) (hk : k ∈ knN) : n_Gate_event g (.str k) t v = .ok (if inB g k t = true then some (lenI (rowOf g k)) else none, stp g (.ev k t v)) := by
  unfold n_Gate_event n_Gate_check_going
  rw [hf, chk_kn hk, lets_ok hf hk]
  simp only [ok_bind, Bool.false_eq_true, if_false]
  have hr := h.row k
  have hl := h.lt
  unfold stp
  dsimp only
  cases c : inB g k t with
  | false =>
    simp only [Bool.not_false, if_true, Bool.false_eq_true, if_false]
    show (app g.late _).bind _ = _
    rw [N.app_ok (by omega), hf]; rfl
  | true =>
    simp only [Bool.not_true, Bool.false_eq_true, if_false, if_true]
    show (cat (rowOf g k) _).bind _ = _
    rw [cat_ok (by simp; omega), ok_bind, nd_ok h hn, hf]; rfl
theorem event_fin {g : Gt} {p : P} {t v : Int} (hf : g.fin = true) : n_Gate_event g p t v = .exc "Finished" none := by
  unfold n_Gate_event n_Gate_check_going
  rw [hf]; rfl
theorem event_bd {g : Gt} {p : P} {t v : Int} (hf : g.fin = false) (h : bdB p = true) : n_Gate_event g p t v = .exc "BadName" (some [("name", p)]) := by
  unfold n_Gate_event n_Gate_check_going
  rw [hf, chk_bd h]; rfl
theorem raise_ok {g : Gt} {n : Nat} (h : Iv n g) (hn : n ≤ 1000) {t : Int} (hf : g.fin = false) : n_Gate_raise_floor g t = .ok (hiB g.fl t, stp g (.rs t)) := by
  unfold n_Gate_raise_floor n_Gate_check_going
  rw [hf]
  simp only [ok_bind, Bool.false_eq_true, if_false]
  have e : ((if g.fl.isSome = true then ((unw g.fl).bind fun f => Rs.ok (decide (t ≤ f))).bind fun g_ => Rs.ok g_ else Rs.ok false) : Rs Bool) = .ok (!hiB g.fl t) := by
    unfold hiB
    cases g.fl with
    | none => rfl
    | some f =>
      show Rs.ok (decide (t ≤ f)) = Rs.ok (!decide (f < t))
      by_cases c : f < t
      · rw [decide_eq_true c, decide_eq_false (by omega)]; rfl
      · rw [decide_eq_false c, decide_eq_true (by omega)]; rfl
  rw [e]
  simp only [ok_bind]
  unfold stp
  dsimp only
  cases c : hiB g.fl t with
  | false => rfl
  | true =>
    simp only [Bool.not_true, Bool.false_eq_true, if_false, if_true]
    rw [cnt_okM h hn, hf]; rfl
theorem raise_fin {g : Gt} {t : Int} (hf : g.fin = true) : n_Gate_raise_floor g t = .exc "Finished" none := by
  unfold n_Gate_raise_floor n_Gate_check_going
  rw [hf]; rfl
theorem finish_ok {g : Gt} (hf : g.fin = false) : n_Gate_finish g = .ok ((), stp g .fin) := by
  unfold n_Gate_finish n_Gate_check_going
  rw [hf]; rfl
theorem finish_fin {g : Gt} (hf : g.fin = true) : n_Gate_finish g = .exc "Finished" none := by
  unfold n_Gate_finish n_Gate_check_going
  rw [hf]; rfl
theorem take_fin {g : Gt} {p : P} (hf : g.fin = true) : n_Gate_take g p = .exc "Finished" none := by
  unfold n_Gate_take n_Gate_check_going
  rw [hf]; rfl
def outP (g : Gt) : Dd → P
  | .ev k t _ => if inB g k t = true then .int (lenI (rowOf g k)) else .non
  | .rs t => .bl (hiB g.fl t)
  | _ => .non
theorem outE {g : Gt} {k : Str} {t v : Int} : outP g (.ev k t v) = if inB g k t = true then .int (lenI (rowOf g k)) else .non := rfl
theorem take_ok {g : Gt} {n : Nat} (h : Iv n g) (hn : n ≤ 1000) {d : Dd} (hf : g.fin = false) (hd : Dk d) : n_Gate_take g (dP d) = .ok (outP g d, stp g d) := by
  have e : n_Gate_take g (dP d) = (n_Gate_check_going g).bind fun _ => (tagM (dP d) "event").bind fun b => if b = true then
    ((pixP (dP d) 1).bind fun k => (ixI (dP d) 2).bind fun t => (ixI (dP d) 3).bind fun v => n_Gate_event g k t v).bind fun r => Rs.ok (em r.1, r.2)
    else (tagM (dP d) "raise").bind fun b2 => if b2 = true then ((ixI (dP d) 1).bind fun t => n_Gate_raise_floor g t).bind fun r => Rs.ok (em r.1, r.2)
    else (tagM (dP d) "finish").bind fun b3 => if b3 = true then (n_Gate_finish g).bind fun r => Rs.ok (P.non, r.2) else Rs.ok (P.non, g) := rfl
  rw [e]
  unfold n_Gate_check_going
  rw [hf, tagE, tagR, tagF]
  simp only [ok_bind, Bool.false_eq_true, if_false]
  cases d with
  | yd p => rfl
  | fin =>
    simp only [isE, isR, isF, Bool.false_eq_true, if_false, if_true]
    rw [finish_ok hf]; rfl
  | rs t =>
    simp only [isE, isR, isF, Bool.false_eq_true, if_false, if_true, rs_1, ok_bind]
    rw [raise_ok h hn hf]; rfl
  | ev k t v =>
    simp only [isE, isR, isF, Bool.false_eq_true, if_false, if_true, ev_p1, ev_2, ev_3, ok_bind]
    rw [event_ok h hn hf hd]
    rw [outE]
    by_cases c : inB g k t = true
    · rw [if_pos c, if_pos c]; rfl
    · rw [if_neg c, if_neg c]; rfl
theorem take_bd {g : Gt} {p : P} {t v : Int} (hf : g.fin = false) (h : bdB p = true) : n_Gate_take g (.tup [.str "event", p, .int t, .int v]) = .exc "BadName" (some [("name", p)]) := by
  have e0 : pixP (.tup [.str "event", p, .int t, .int v]) 0 = .ok (.str "event") := rfl
  unfold n_Gate_take n_Gate_check_going
  rw [hf, e0]
  simp only [ok_bind, Bool.false_eq_true, if_false]
  have e1 : eqM (em (P.str "event")) (em ("event" : Str)) = .ok true := eqM_self (sf_str (okS_sk _ (by decide +kernel)))
  rw [e1]
  simp only [ok_bind, if_true]
  show ((n_Gate_event g p t v).bind fun r => Rs.ok (em r.1, r.2)) = _
  rw [event_bd hf h]; rfl
theorem taken_ok {g : Gt} {n : Nat} (h : Iv n g) (hn : n ≤ 1000) {d : Dd} {straight : Bool} (hf : g.fin = false) (hd : Dk d) (hne : d ≠ .fin) : n_l_taken g g (dP d) straight = .ok (true, stp g d) := by
  have h2 : ∀ told : Bool, tk2 g (dP d) straight = .ok (outP g d, stp g d) := fun told => by
    unfold tk2
    rw [tagE, tagR, take_ok h hn hf hd]
    cases straight with
    | false => rfl
    | true =>
      simp only [ok_bind, if_true]
      cases d with
      | fin => exact (hne rfl).elim
      | yd p => rfl
      | rs t =>
        simp only [isE, isR, Bool.false_eq_true, if_false, if_true, rs_1, ok_bind]
        rw [raise_ok h hn hf]; rfl
      | ev k t v =>
        simp only [isE, isR, Bool.false_eq_true, if_false, if_true, ev_p1, ev_2, ev_3, ok_bind]
        rw [event_ok h hn hf hd]
        rw [outE]
        by_cases c : inB g k t = true
        · rw [if_pos c, if_pos c]; rfl
        · rw [if_neg c, if_neg c]; rfl
  unfold n_l_taken
  rw [ok_bind, ok_bind]
  cases d with
  | fin => exact (hne rfl).elim
  | yd p =>
    have h1 : tk1 g g (dP (.yd p)) = .ok (.inl false) := by unfold tk1; rw [tagE]; rfl
    have h3 : tk3 g (dP (.yd p)) false (outP g (.yd p)) = .ok true := by unfold tk3; rw [tagR]; rfl
    rw [h1, bindL_inl, h2 false, ok_bind, h3]; rfl
  | rs t =>
    have h1 : tk1 g g (dP (.rs t)) = .ok (.inl false) := by unfold tk1; rw [tagE]; rfl
    have h3 : tk3 g (dP (.rs t)) false (outP g (.rs t)) = .ok true := by
      unfold tk3
      rw [tagR]
      simp only [isR, ok_bind, if_true, rs_1]
      have e : ((if g.fl.isNone = true then Rs.ok true else (unw g.fl).bind fun f => Rs.ok (decide (f < t))) : Rs Bool) = .ok (hiB g.fl t) := by
        unfold hiB
        cases g.fl <;> rfl
      rw [e]
      show ((isiM "bool" (.bl (hiB g.fl t))).bind fun b => if b = true then (Rs.ok (hiB g.fl t)).bind fun c => eqM (.bl (hiB g.fl t)) (em c) else Rs.ok false) = _
      have e2 : isiM "bool" (.bl (hiB g.fl t)) = .ok true := rfl
      rw [e2, ok_bind, if_pos rfl, ok_bind]
      exact eqM_self (sf_bl _)
    rw [h1, bindL_inl, h2 false, ok_bind, h3]; rfl
  | ev k t v =>
    have h1 : tk1 g g (dP (.ev k t v)) = .ok (.inl (inB g k t)) := by
      unfold tk1 toldM badM
      rw [tagE]
      simp only [isE, ok_bind, if_true, ev_p1, ev_2, ev_1]
      rw [lets_ok hf hd, calm_ok, ok_bind, llets_ok hf, calm_ok]
      have e2 : isiM "bool" (em (inB g k t)) = .ok true := rfl
      rw [e2]
      simp only [ok_bind, Bool.not_true, Bool.false_eq_true, if_false, decide_true]
    have h3 : tk3 g (dP (.ev k t v)) (inB g k t) (outP g (.ev k t v)) = .ok true := by
      unfold tk3 outP
      rw [tagR]
      simp only [isR, ok_bind, Bool.false_eq_true, if_false, ev_1]
      cases c : inB g k t with
      | false => rfl
      | true =>
        simp only [Bool.not_true, Bool.false_eq_true, if_false, if_true]
        have e1 : isiM "int" (.int (lenI (rowOf g k))) = .ok true := rfl
        have e2 : isiM "bool" (.int (lenI (rowOf g k))) = .ok false := rfl
        rw [e1, e2]
        simp only [ok_bind, Bool.not_false, if_true]
        exact eqM_self (sf_int _)
    rw [h1, bindL_inl, h2 false, ok_bind, h3]; rfl
end G
end
section
set_option Elab.async false
set_option linter.all false
set_option maxRecDepth 100000
set_option maxHeartbeats 0
namespace G
open PySem L2 M N
theorem loop_const {α σ ρ : Type} {f : σ → α → Rs (LC σ ρ)} {s : σ} : ∀ {xs : List α}, (∀ x ∈ xs, f s x = .ok (.nx s)) → loopRs f xs s = .ok (.inl s)
  | [], _ => rfl
  | x :: xs, h => by
    show ((f s x).bind _) = _
    rw [h x List.mem_cons_self, ok_bind]
    exact loop_const fun y hy => h y (List.mem_cons_of_mem _ hy)
theorem loop_r' {σ ρ : Type} {f : σ → Int → Rs (LC σ ρ)} (s : Nat → σ) : ∀ n k, (∀ i, k ≤ i → i < k + n → f (s i) (0 + (i : Int)) = .ok (.nx (s (i + 1)))) → loopRs f ((List.range' k n).map fun i : Nat => (0 : Int) + (i : Int)) (s k) = .ok (.inl (s (k + n)))
  | 0, k, _ => rfl
  | n + 1, k, h => by
    rw [List.range'_succ, List.map_cons]
    show ((f (s k) (0 + (k : Int))).bind _) = _
    rw [h k (Nat.le_refl _) (by omega), ok_bind]
    have := loop_r' s n (k + 1) fun i h1 h2 => h i (by omega) (by omega)
    rw [show k + 1 + n = k + (n + 1) by omega] at this
    exact this
theorem loop_rng {σ ρ : Type} {f : σ → Int → Rs (LC σ ρ)} (s : Nat → σ) {n : Nat} (h : ∀ i, i < n → f (s i) (i : Int) = .ok (.nx (s (i + 1)))) : loopRs f (N.rng 0 n) (s 0) = .ok (.inl (s n)) := by
  have := loop_r' s n 0 fun i _ h2 => by rw [Int.zero_add]; exact h i (by omega)
  unfold N.rng
  rw [List.range_eq_range']
  rw [Nat.zero_add] at this
  exact this
theorem srt_len (xs : List Str) : (srtS xs).length = xs.length := by unfold srtS; exact List.length_mergeSort ..
theorem srt_mem {xs : List Str} {x : Str} (h : x ∈ srtS xs) : x ∈ xs := by unfold srtS at h; exact List.mem_mergeSort.mp h
theorem keys_sf {g : Gt} {n : Nat} (h : Iv n g) : Sf (em (srtS (g.lets.map (·.a)))) := (s0_lst (k := 0) fun p hp => by
  obtain ⟨x, hx, rfl⟩ := List.mem_map.mp hp
  obtain ⟨y, hy, rfl⟩ := List.mem_map.mp (srt_mem hx)
  exact s0_str (kn_sk (h.keys y hy))).sf
theorem late_sf {g : Gt} {n : Nat} (h : Iv n g) : Sf (em g.late) := (s0_lst (k := 1) fun p hp => by
  obtain ⟨x, hx, rfl⟩ := List.mem_map.mp hp
  refine s0_tup (k := 0) fun q hq => ?_
  have hq : q ∈ ([em x.a, em x.b, em x.c] : List P) := hq
  simp only [List.mem_cons, List.not_mem_nil, or_false] at hq
  rcases hq with rfl | rfl | rfl
  · exact s0_str (kn_sk (h.lk x hx))
  · exact s0_int _
  · exact s0_int _).sf
theorem asked2_ok {g : Gt} {n : Nat} (h : Iv n g) (hn : n ≤ 1000) (name : Str) : n_l_asked_2 g g () name = .ok (.nx ()) := by
  unfold n_l_asked_2 n_Gate_letters_of n_Gate_count_of
  have hr := h.row name
  simp only [calm_ok, ok_bind, decide_true, Bool.not_true, Bool.false_eq_true, if_false]
  rw [N.app_ok (by unfold rowOf at hr; omega)]; rfl
theorem asked1_ok {g : Gt} {n : Nat} (h : Iv n g) (hn : n ≤ 1000) {names : Tu Str} (hl : names.l.length ≤ 100) (x : Int) : n_l_asked_1 g g names () x = .ok (.nx ()) := by
  unfold n_l_asked_1 n_Gate_known n_Gate_late
  have h1 := h.len
  have h2 := h.lt
  simp only [calm_ok, ok_bind]
  rw [neM_self (keys_sf h), neM_self (late_sf h)]
  simp only [ok_bind, Bool.false_eq_true, if_false]
  rw [N.app_ok (by rw [srt_len, List.length_map]; omega), ok_bind, N.app_ok (by omega), ok_bind, cat_ok (by simp; omega), ok_bind, loop_const fun y _ => asked2_ok h hn y]
  rfl
theorem asked_ok {g : Gt} {n : Nat} (h : Iv n g) (hn : n ≤ 1000) {names : Tu Str} (hl : names.l.length ≤ 100) : n_l_asked g g names = .ok true := by
  unfold n_l_asked n_Gate_floor n_Gate_finished
  have e : isiM "bool" (em g.fin) = .ok true := rfl
  simp only [calm_ok, ok_bind, decide_true, Bool.not_true, Bool.false_eq_true, if_false, e]
  rw [rng1_ok (z := 2) (by decide) (by decide), ok_bind, loop_const fun y _ => asked1_ok h hn hl y]
  rfl
theorem ask_ok {ds : List Dd} (hl : ds.length ≤ 900) (hd : ∀ d ∈ ds, Dk d) {names : Tu Str} (hn : names.l.length ≤ 100) : askM (runG ds g0) names (ds.map dP) = .ok true := by
  unfold askM
  rw [gate_ok hl hd, calm_ok, ok_bind, asked_ok (iv0.runG hd) (by omega) hn]; rfl
theorem ref_bd {g : Gt} (hf : g.fin = false) {p : P} (hp : bdB p = true) {door : Int} (hd : door = 0 ∨ door = 1) : n_l_refused g door p = .ok (.tup [.str "name", p, .bl true], g) := by
  have e : n_door g door p = .exc "BadName" (some [("name", p)]) := by
    unfold n_door
    rcases hd with rfl | rfl
    · rw [if_pos (by decide), event_bd hf hp]; rfl
    · rw [if_neg (by decide), if_pos (by decide), take_bd hf hp]; rfl
  unfold n_l_refused
  rw [e, ok_bind, tryRs_exc]
  kernel_rfl
theorem door_fin {g : Gt} (hf : g.fin = true) (p : P) (door : Int) : n_door g door p = .exc "Finished" none := by
  unfold n_door
  rw [event_fin hf, take_fin hf, raise_fin hf, take_fin hf, take_fin hf, finish_fin hf, take_fin hf]
  simp only [N.Rs.bind]
  repeat' split
  all_goals rfl
theorem ref_fin {g : Gt} (hf : g.fin = true) (p : P) (door : Int) : n_l_refused g door p = .ok (endP, g) := by
  unfold n_l_refused
  rw [door_fin hf, ok_bind, tryRs_exc]
  kernel_rfl
theorem run_take {ds : List Dd} {k : Nat} {d : Dd} (h : ds[k]? = some d) : runG (ds.take (k + 1)) g0 = stp (runG (ds.take k) g0) d := by
  have : ds.take (k + 1) = ds.take k ++ [d] := by
    rw [List.take_add_one, h]; rfl
  rw [this]
  unfold runG
  rw [List.foldl_append]; rfl
theorem cutM {ds : List Dd} {k : Nat} : cut (ds.map dP) none (some (k : Int)) = (ds.take k).map dP := by
  rw [N.cut_take (by omega), Int.toNat_natCast, List.map_take]
theorem cutN {ds : List Dd} {k : Nat} : cut (ds.map dP) (some (k : Int)) none = (ds.drop k).map dP := by
  rw [N.cut_drop (by omega), Int.toNat_natCast, List.map_drop]
theorem walked_ok {ds : List Dd} (hl : ds.length ≤ 100) (hd : ∀ d ∈ ds, Dk d) (hf : ∀ d ∈ ds, d ≠ .fin) {names : Tu Str} (hn : names.l.length ≤ 100) {method : Int} : n_l_walked g0 (ds.map dP) names method = .ok (true, runG ds g0) := by
  unfold n_l_walked
  have e : lenI (ds.map dP) = ((ds.length : Nat) : Int) := by unfold lenI; rw [List.length_map]
  rw [e, rng1_nat (by omega), ok_bind]
  have := loop_rng (ρ := Bool × Gt) (f := n_l_walked_1 (ds.map dP) names method) (fun k => runG (ds.take k) g0) (n := ds.length) fun k hk => by
    have hx := List.getElem?_eq_getElem hk
    have hm := List.mem_of_getElem? hx
    have hdk : ∀ d ∈ ds.take k, Dk d := fun d h => hd d (List.mem_of_mem_take h)
    have hfk : ∀ d ∈ ds.take k, d ≠ .fin := fun d h => hf d (List.mem_of_mem_take h)
    have hlk : (ds.take k).length ≤ 100 := by rw [List.length_take]; omega
    have hdk1 : ∀ d ∈ ds.take (k + 1), Dk d := fun d h => hd d (List.mem_of_mem_take h)
    have hlk1 : (ds.take (k + 1)).length ≤ 900 := by rw [List.length_take]; omega
    have hfin : (runG (ds.take k) g0).fin = false := run_fin hfk
    unfold n_l_walked_1 takeM
    rw [cutM, gate_ok (by omega) hdk, calm_ok, ok_bind, idx_nat (a := dP ds[k]) (by rw [List.getElem?_map, hx]; rfl), ok_bind, modM_ok (by decide), ok_bind, ok_bind, taken_ok (iv0.runG hdk) (by omega) hfin (hd _ hm) (hf _ hm), calm_ok, ok_bind]
    dsimp only
    rw [if_neg (by simp), ok_bind, show ((k : Int) + 1) = ((k + 1 : Nat) : Int) by omega, cutM, ← run_take hx, ask_ok hlk1 hdk1 hn, ok_bind]
    rfl
  have e0 : runG (ds.take 0) g0 = g0 := rfl
  rw [e0, List.take_length] at this
  rw [this]; rfl
theorem noname_ok {ds : List Dd} (hl : ds.length ≤ 100) (hd : ∀ d ∈ ds, Dk d) (hf : ∀ d ∈ ds, d ≠ .fin) {names : Tu Str} (hn : names.l.length ≤ 100) {p : P} (hp : bdB p = true) : n_l_no_name (runG ds g0) (ds.map dP) names p = .ok (true, runG ds g0) := by
  have hfin : (runG ds g0).fin = false := run_fin hf
  unfold n_l_no_name
  rw [lets_bd hp, calm_ok, ok_bind, ok_bind, ok_bind, if_neg (by decide), rng1_ok (z := 2) (by decide) (by decide), ok_bind, loop_const (s := runG ds g0) fun x hx => ?_]
  · rw [bindL_inl, ok_bind, ask_ok (by omega) hd hn]; rfl
  · have hx : x ∈ ([0, 1] : List Int) := hx
    simp only [List.mem_cons, List.not_mem_nil, or_false] at hx
    unfold n_l_no_name_1
    rw [ref_bd hfin hp hx, calm_ok, ok_bind, neM_self (s0_tup (k := 0) (fun q hq => by
      simp only [List.mem_cons, List.not_mem_nil, or_false] at hq
      rcases hq with rfl | rfl | rfl
      · exact s0_str (okS_sk _ (by decide +kernel))
      · exact sf_bad hp
      · exact s0_bl _)).sf]
    rfl
theorem endP_sf : Sf endP := (s0_tup (k := 0) (fun q hq => by
  simp only [List.mem_cons, List.not_mem_nil, or_false] at hq
  rcases hq with rfl | rfl | rfl
  · exact s0_str (okS_sk _ (by decide +kernel))
  · exact s0_bl _
  · exact s0_bl _)).sf
theorem ended_ok {ds : List Dd} (hl : ds.length ≤ 100) (hd : ∀ d ∈ ds, Dk d) {names : Tu Str} (hn : names.l.length ≤ 100) {k0 : Str} (h0 : names.l.head? = some k0) {p : P} : n_l_ended (stp (runG ds g0) .fin) (ds.map dP) names p = .ok (true, stp (runG ds g0) .fin) := by
  have hfin : (stp (runG ds g0) .fin).fin = true := rfl
  have hd2 : ∀ d ∈ ds ++ [.fin], Dk d := fun d h => (List.mem_append.mp h).elim (hd d) fun h => by rw [List.mem_singleton.mp h]; trivial
  have hg : n_l_gate (ds.map dP ++ [.tup [.str "finish"]]) = .ok (stp (runG ds g0) .fin) := by
    have := gate_ok (ds := ds ++ [.fin]) (by rw [List.length_append, List.length_singleton]; omega) hd2
    rw [List.map_append] at this
    have e : runG (ds ++ [.fin]) g0 = stp (runG ds g0) .fin := by unfold runG; rw [List.foldl_append]; rfl
    rw [e] at this
    exact this
  have hi : Iv (ds.length + 1) (stp (runG ds g0) .fin) := by
    have := (iv0.runG hd).step (d := .fin) trivial
    rwa [Nat.zero_add] at this
  generalize stp (runG ds g0) .fin = g at *
  unfold n_l_ended
  rw [cat_ok (by simp; omega), ok_bind, hg, calm_ok, ok_bind, rng1_ok (z := 7) (by decide) (by decide), ok_bind, loop_const (s := g) fun x hx => ?_]
  · rw [bindL_inl, idx_head h0, ok_bind, lets_fin hfin, calm_ok, ok_bind, ok_bind, ok_bind, if_neg (by decide), ok_bind]
    have em1 : n_Gate_mark_of g k0 = .ok (some ⟨lenI (rowOf g k0), none⟩) := by
      unfold n_Gate_mark_of
      rw [hfin]; rfl
    rw [em1, calm_ok, ok_bind, ok_bind, ok_bind, ok_bind]
    have e2 : neM (em (some ⟨lenI (rowOf g k0), none⟩ : Option MkG)) (.tup [em (lenI ((kget k0 g.lets).getD ([] : List LtG))), .non]) = .ok false := neM_self (p := .tup [.int (lenI (rowOf g k0)), .non]) (s0_tup (k := 0) (fun q hq => by
      simp only [List.mem_cons, List.not_mem_nil, or_false] at hq
      rcases hq with rfl | rfl
      · exact s0_int _
      · exact s0_non)).sf
    rw [e2, ok_bind, ok_bind, if_neg (by simp), asked_ok hi (by omega) hn]; rfl
  · unfold n_l_ended_1
    rw [ref_fin hfin, calm_ok, ok_bind, neM_self endP_sf, ok_bind, ok_bind]
    dsimp only
    rw [if_neg (by simp), idx_head h0, ok_bind, ref_fin hfin, calm_ok, ok_bind, neM_self endP_sf]
    rfl
theorem tk_fold : ∀ {ds : List Dd} {g : Gt} {n : Nat}, Iv n g → n + ds.length ≤ 900 → g.fin = false → (∀ d ∈ ds, Dk d) → (∀ d ∈ ds, d ≠ .fin) → foldRs tkM (ds.map dP) g = .ok (runG ds g)
  | [], g, n, _, _, _, _, _ => rfl
  | d :: ds, g, n, h, hn, hf, hd, hx => by
    rw [List.length_cons] at hn
    show ((tkM g (dP d)).bind _) = _
    unfold tkM
    rw [take_ok h (by omega) hf (hd d List.mem_cons_self), calm_ok, ok_bind, ok_bind]
    exact tk_fold (h.step (hd d List.mem_cons_self)) (by omega) ((stp_fin (hx d List.mem_cons_self)).trans hf) (fun y hy => hd y (List.mem_cons_of_mem _ hy)) fun y hy => hx y (List.mem_cons_of_mem _ hy)
theorem twin_ok {g : Gt} {n : Nat} (h : Iv n g) (hn : n ≤ 1000) : n_Gate_twin g = .ok g := if_pos ⟨⟨h.nd, by have := h.len; omega⟩, h.cnd, by have := h.cl; omega⟩
theorem twinned_ok {ds : List Dd} (hl : ds.length ≤ 100) (hd : ∀ d ∈ ds, Dk d) (hf : ∀ d ∈ ds, d ≠ .fin) {names : Tu Str} (hn : names.l.length ≤ 100) {k0 : Str} (h0 : names.l.head? = some k0) (hk0 : k0 ∈ knN) {m : Nat} : n_l_twinned (ds.map dP) names (m : Int) = .ok true := by
  have hdk : ∀ d ∈ ds.take m, Dk d := fun d h => hd d (List.mem_of_mem_take h)
  have hfk : ∀ d ∈ ds.take m, d ≠ .fin := fun d h => hf d (List.mem_of_mem_take h)
  have hlk : (ds.take m).length ≤ 100 := by rw [List.length_take]; omega
  have hfin : (runG (ds.take m) g0).fin = false := run_fin hfk
  have hi := iv0.runG hdk
  rw [Nat.zero_add] at hi
  have hll : (ds.take m).length + (ds.drop m).length = ds.length := by rw [← List.length_append, List.take_append_drop]
  have hrun : runG (ds.drop m) (runG (ds.take m) g0) = runG ds g0 := by
    unfold runG
    rw [← List.foldl_append, List.take_append_drop]
  unfold n_l_twinned
  rw [ok_bind, cutM, cutN, tk_fold iv0 (by omega) rfl hdk hfk, ok_bind, twin_ok hi (by omega), calm_ok, ok_bind, tk_fold hi (by omega) hfin (fun d h => hd d (List.mem_of_mem_drop h)) (fun d h => hf d (List.mem_of_mem_drop h)), ok_bind, hrun, ok_bind, ask_ok (by omega) hdk hn, ok_bind, if_neg (by simp), idx_head h0, ok_bind, ok_bind]
  have e1 : n_Gate_take (runG (ds.take m) g0) (.tup [.str "event", em k0, .int bigI, .int 1]) = .ok (outP (runG (ds.take m) g0) (.ev k0 bigI 1), stp (runG (ds.take m) g0) (.ev k0 bigI 1)) := take_ok hi (by omega) (d := .ev k0 bigI 1) hfin hk0
  have hi2 := hi.step (d := .ev k0 bigI 1) hk0
  have hfin2 : (stp (runG (ds.take m) g0) (.ev k0 bigI 1)).fin = false := (stp_fin (by intro h; cases h)).trans hfin
  have e2 : n_Gate_take (stp (runG (ds.take m) g0) (.ev k0 bigI 1)) raiseP = .ok (outP (stp (runG (ds.take m) g0) (.ev k0 bigI 1)) (.rs bigI), stp (stp (runG (ds.take m) g0) (.ev k0 bigI 1)) (.rs bigI)) := take_ok hi2 (by omega) (d := .rs bigI) hfin2 trivial
  rw [e1, calm_ok, ok_bind, e2, calm_ok, ok_bind, cat_ok (by simp; omega), ok_bind]
  have e3 : runG (ds.take m ++ [.ev k0 bigI 1, .rs bigI]) g0 = stp (stp (runG (ds.take m) g0) (.ev k0 bigI 1)) (.rs bigI) := by
    unfold runG; rw [List.foldl_append]; rfl
  have e4 : (ds.take m).map dP ++ [.tup [.str "event", em k0, .int bigI, .int 1], raiseP] = (ds.take m ++ [Dd.ev k0 bigI 1, Dd.rs bigI]).map dP := by rw [List.map_append]; rfl
  have hd3 : ∀ d ∈ ds.take m ++ [.ev k0 bigI 1, .rs bigI], Dk d := fun d h => by
    rcases List.mem_append.mp h with h | h
    · exact hdk d h
    · simp only [List.mem_cons, List.not_mem_nil, or_false] at h
      rcases h with rfl | rfl
      · exact hk0
      · trivial
  rw [e4, ← e3, ask_ok (by rw [List.length_append]; show _ + 2 ≤ 900; omega) hd3 hn, ok_bind, if_neg (by simp), ok_bind, ask_ok (by omega) hd hn]
end G
end
section
set_option Elab.async false
set_option linter.all false
set_option maxRecDepth 100000
set_option maxHeartbeats 0
namespace G
open PySem L2 M N
theorem gets_wide {s : List Int} : Gets (n_l_wide s) fun _ => True := by
  unfold n_l_wide
  rw [ok_bind, show (11 : Int) = ((11 : Nat) : Int) from rfl, rng1_nat (by decide), ok_bind]
  refine gets_bind (gets_fold1 (fun _ => True) _ _ trivial fun q _ x _ => ?_) fun q _ => ?_
  · unfold n_l_wide_1
    rw [mulM_r (by decide), ok_bind, draw_ok (by decide)]
    exact gets_ok trivial
  · rw [draw_ok (by decide)]
    simp only [ok_bind]
    exact gets_if (fun _ => gets_ok trivial) fun _ => gets_ok trivial
theorem gets_value {s : List Int} {z : Int} : Gets (n_l_value s z) fun _ => True := by
  unfold n_l_value
  refine gets_if (fun _ => ?_) fun _ => gets_if (fun _ => ?_) fun _ => gets_if (fun _ => ?_) fun _ => gets_if (fun _ => ?_) fun _ => ?_
  · rw [draw_ok (by decide)]; exact gets_ok trivial
  · rw [draw_ok (by decide)]; exact gets_ok trivial
  · rw [draw_ok (by decide), ok_bind, draw_ok (by decide)]; exact gets_ok trivial
  · have h1 := drawV_bd (xs := s) (show (0 : Int) < 3 by decide)
    have h2 := drawV_bd (xs := drawS s) (show (0 : Int) < 2 by decide)
    rw [draw_ok (by decide), ok_bind, draw_ok (by decide), ok_bind, ok_bind, mulM_l (by dsimp only; omega)]; exact gets_ok trivial
  · exact gets_bind gets_wide fun _ _ => gets_ok trivial
theorem gets_span {s : List Int} : Gets (n_l_span s) fun g => 0 ≤ g.1 := by
  unfold n_l_span
  refine gets_bind (gets_draw (by decide)) fun d hd => ?_
  refine gets_if (fun _ => ?_) fun _ => gets_if (fun _ => ?_) fun _ => ?_
  · rw [modM_ok (by decide), ok_bind]
    exact gets_ok (by show 0 ≤ d.1 % 5; omega)
  · refine gets_bind (gets_draw (by decide)) fun g hg => gets_ok hg.1
  · refine gets_bind (P := fun g : Int × List Int => 0 ≤ g.1) (gets_bind (gets_draw (by decide)) fun g hg => gets_ok ?_) fun g hg => gets_ok hg
    show 0 ≤ (100000000000000000000 : Int) + g.1
    omega
theorem gets_step {s : List Int} {z : Int} (hz : 0 ≤ z) : Gets (n_l_step s z) fun g => 0 ≤ g.1 := by
  unfold n_l_step
  refine gets_bind (gets_draw (by decide)) fun d hd => ?_
  refine gets_if (fun _ => gets_ok (Int.le_refl 0)) fun _ => gets_if (fun _ => gets_ok hz) fun _ => gets_if (fun _ => gets_ok (by show 0 ≤ z + 1; omega)) fun _ => gets_if (fun _ => ?_) fun _ => gets_if (fun _ => ?_) fun _ => ?_
  · refine gets_bind (P := fun g : Int × List Int => 0 ≤ g.1) (gets_bind (gets_draw (by decide)) fun g hg => gets_ok (by show 0 ≤ z + 1 + g.1; omega)) fun g hg => gets_ok hg
  · rw [fdivM_ok (by decide), ok_bind]; exact gets_ok (by show 0 ≤ z / 2; omega)
  · exact gets_bind (gets_draw (by decide)) fun g hg => gets_ok hg.1
def DI (n : Nat) (l : List P) : Prop := ∃ ds : List Dd, l = ds.map dP ∧ ds.length = n ∧ ∀ d ∈ ds, Dk d ∧ d ≠ .fin
theorem DI.app {n : Nat} {l : List P} (h : DI n l) (hn : n ≤ 1000) {d : Dd} (hd : Dk d) (hf : d ≠ .fin) {p : P} (hp : p = dP d) : Gets (app l p) (DI (n + 1)) := by
  obtain ⟨ds, rfl, hl, hx⟩ := h
  subst hp
  rw [N.app_ok (by rw [List.length_map]; omega)]
  refine gets_ok ⟨ds ++ [d], by rw [List.map_append]; rfl, by rw [List.length_append, hl]; rfl, fun y hy => ?_⟩
  rcases List.mem_append.mp hy with hy | hy
  · exact hx y hy
  · rw [List.mem_singleton.mp hy]; exact ⟨hd, hf⟩
theorem pop_0 {α : Type} {x : α} {r : List α} : popN (x :: r) 0 = .ok (x, r) := by
  unfold popN
  have : seqIndex? 0 (x :: r).length = some 0 := by
    unfold seqIndex?
    simp
  rw [this]
  rfl
theorem gets_deeds {s : List Int} {count : Int} (hc : 0 ≤ count ∧ count < 15) {names : Tu Str} (hn : names.l ≠ []) (hk : ∀ k ∈ names.l, k ∈ knN) {spots : Tu (Tu Int)} (hs : spots.l.length ≤ 3) {span style : Int} (hp : 0 ≤ span) : Gets (n_l_deeds s count names spots span style) fun g => ∃ n, n ≤ 18 ∧ DI n g.1 := by
  unfold n_l_deeds
  rw [ok_bind, ok_bind]
  refine gets_bind gets_value fun now _ => ?_
  rw [rng1_ok hc.1 (by omega), ok_bind]
  have hnl : 0 < names.l.length := List.length_pos_iff.mpr hn
  refine gets_bind (gets_fold (f := n_l_deeds_1 names span style) (fun pre (st : Int × List Int × List P × List (Tu Int)) => DI pre.length st.2.2.1 ∧ st.2.2.2.length ≤ 3) (N.rng 0 count.toNat) [] _ ⟨⟨[], rfl, rfl, fun _ h => (by cases h)⟩, hs⟩ fun p st x r e hi => ?_) fun q hq => ?_
  · have hpl : p.length ≤ 15 := by
      have := congrArg List.length e
      simp [N.rng_len] at this; omega
    have hl1 : (p ++ [x]).length = p.length + 1 := by rw [List.length_append]; rfl
    obtain ⟨i1, i2⟩ := hi
    unfold n_l_deeds_1
    rw [hl1]
    refine gets_bind (gets_draw (by decide)) fun pick _ => ?_
    refine gets_bind (P := fun g : Str × List Int => g.1 ∈ knN) (gets_bind (gets_draw (by unfold lenI; omega)) fun g hg => ?_) fun name hname => ?_
    · obtain ⟨a, e1, e2, _⟩ := N.idx_mem (xs := names.l) hg.1 hg.2
      exact gets_bindE e1 (gets_ok (hk a e2))
    refine gets_ifP (fun _ => ?_) fun _ => ?_
    · refine gets_bind (P := fun _ => True) (gets_bind (gets_step hp) fun _ _ => gets_ok trivial) fun now _ => ?_
      refine gets_bind (P := fun g : T4 Str Str Int Int × List Int => ∃ t v, em g.1 = dP (.ev name.1 t v)) (gets_bind gets_value fun g3 _ => gets_ok ⟨now.1, g3.1, rfl⟩) fun g4 h4 => ?_
      obtain ⟨t, v, h4⟩ := h4
      exact gets_bind (i1.app (by omega) (d := .ev name.1 t v) hname (by intro h; cases h) h4) fun l hl => gets_ok ⟨hl, i2⟩
    refine gets_ifP (fun _ => ?_) fun _ => ?_
    · refine gets_bind (P := fun g : T4 Str Str Int Int × List Int => ∃ t v, em g.1 = dP (.ev name.1 t v)) (gets_bind (P := fun _ => True) (gets_bind (gets_draw (by decide)) fun _ _ => gets_ok trivial) fun g6 _ => gets_bind gets_value fun g3 _ => gets_ok ⟨g6.1, g3.1, rfl⟩) fun g4 h4 => ?_
      obtain ⟨t, v, h4⟩ := h4
      exact gets_bind (i1.app (by omega) (d := .ev name.1 t v) hname (by intro h; cases h) h4) fun l hl => gets_ok ⟨hl, i2⟩
    have RS : ∀ {m : Rs (T2 Str Int × List Int)} {k : (T2 Str Int × List Int) → List P → Rs (Int × List Int × List P × List (Tu Int))}, Gets m (fun g => ∃ t, em g.1 = dP (.rs t)) → (∀ g l, DI (p.length + 1) l → Gets (k g l) fun st => DI (p.length + 1) st.2.2.1 ∧ st.2.2.2.length ≤ 3) → Gets (m.bind fun g => (app st.2.2.1 (em g.1)).bind (k g)) fun st => DI (p.length + 1) st.2.2.1 ∧ st.2.2.2.length ≤ 3 := fun hm hk => gets_bind hm fun g ⟨t, ht⟩ => gets_bind (i1.app (by omega) (d := .rs t) trivial (by intro h; cases h) ht) fun l hl => hk g l hl
    refine gets_ifP (fun _ => ?_) fun _ => ?_
    · exact RS (gets_bind (P := fun _ => True) (gets_bind (gets_draw (by decide)) fun _ _ => gets_ok trivial) fun g _ => gets_ok ⟨g.1, rfl⟩) fun g l hl => gets_ok ⟨hl, i2⟩
    refine gets_ifP (fun _ => ?_) fun _ => ?_
    · exact RS (gets_bind (P := fun _ => True) (gets_bind (gets_draw (by decide)) fun _ _ => gets_ok trivial) fun g _ => gets_ok ⟨g.1, rfl⟩) fun g l hl => gets_ok ⟨hl, i2⟩
    refine gets_if (fun c => ?_) fun _ => ?_
    · have hne : st.2.2.2 ≠ [] := fun h => by rw [h] at c; simp at c
      cases e2 : st.2.2.2 with
      | nil => exact (hne e2).elim
      | cons y r2 =>
        rw [e2] at i2
        rw [pop_0, ok_bind, ok_bind]
        exact gets_bind (i1.app (by omega) (d := .yd (em y)) trivial (by intro h; cases h) rfl) fun l hl => gets_ok ⟨hl, by rw [List.length_cons] at i2; show r2.length ≤ 3; omega⟩
    · exact RS (gets_bind (P := fun _ => True) (gets_bind (gets_draw (by decide)) fun _ _ => gets_ok trivial) fun g _ => gets_ok ⟨g.1, rfl⟩) fun g l hl => gets_ok ⟨hl, i2⟩
  · obtain ⟨q1, q2⟩ := hq
    rw [List.nil_append, N.rng_len] at q1
    refine gets_bind (gets_fold (f := n_l_deeds_2) (fun pre (l : List P) => DI (count.toNat + pre.length) l) q.2.2.2 [] _ q1 fun p st x r e hi => ?_) fun l hl => gets_ok ⟨count.toNat + q.2.2.2.length, by omega, hl⟩
    have hpl : p.length ≤ 3 := by
      have := congrArg List.length e
      simp at this; omega
    unfold n_l_deeds_2
    rw [ok_bind, show (p ++ [x]).length = p.length + 1 by rw [List.length_append]; rfl]
    exact gets_bind (hi.app (by omega) (d := .yd (em x)) trivial (by intro h; cases h) rfl) fun l hl => gets_ok hl
structure WOk (w : T2 (Tu Str) (List P)) : Prop where
  d : ∃ n, n ≤ 18 ∧ DI n w.b
  ne : w.a.l ≠ []
  kn : ∀ k ∈ w.a.l, k ∈ knN
  len : w.a.l.length ≤ 3
theorem gets_world {s : List Int} : Gets (n_l_world s) fun g => WOk g.1 := by
  unfold n_l_world
  rw [ok_bind]
  refine gets_bind (gets_pick (by decide) (by simp)) fun names hn => ?_
  have hn : names.1.l ≠ [] ∧ (∀ k ∈ names.1.l, k ∈ knN) ∧ names.1.l.length ≤ 3 := (show ∀ y ∈ ([(⟨[("a" : Str)]⟩ : Tu Str), (⟨[("a" : Str), ("b" : Str)]⟩ : Tu Str), (⟨[("ab" : Str), ("a" : Str)]⟩ : Tu Str), (⟨[("k" : Str), ("kk" : Str), ("kkkkkkkk" : Str)]⟩ : Tu Str), (⟨[("zz" : Str), ("a" : Str), ("zza" : Str)]⟩ : Tu Str)] : List (Tu Str)), y.l ≠ [] ∧ (∀ k ∈ y.l, k ∈ knN) ∧ y.l.length ≤ 3 by decide +kernel) names.1 hn
  refine gets_bind (gets_pick (by decide) (by simp)) fun spots hs => ?_
  have hs : spots.1.l.length ≤ 3 := by
    simp only [List.mem_cons, List.not_mem_nil, or_false] at hs
    rcases hs with h | h | h <;> rw [h] <;> decide
  refine gets_bind gets_span fun span hp => ?_
  refine gets_bind (gets_draw (by decide)) fun style _ => ?_
  refine gets_bind (P := fun g : T2 (Tu Str) (List P) × List Int => WOk g.1) (gets_bind (gets_bind (gets_draw (by decide)) fun c hc => gets_deeds hc hn.1 hn.2.1 hs hp) fun g hg => gets_ok ⟨hg, hn.1, hn.2.1, hn.2.2⟩) fun g hg => gets_ok hg
theorem law_ok (script : Rol) : n_law script = .ok true := by
  obtain ⟨_, e, rfl⟩ : Gets (n_law script) (· = true) := by
    unfold n_law n_l_stream
    rw [ok_bind]
    refine gets_bind gets_world fun world hw => ?_
    obtain ⟨⟨n, hn, ds, eb, hl, hds⟩, hne, hkn, hlen⟩ := hw
    have hd : ∀ d ∈ ds, Dk d := fun d h => (hds d h).1
    have hf : ∀ d ∈ ds, d ≠ .fin := fun d h => (hds d h).2
    obtain ⟨k0, h0⟩ : ∃ k0, world.1.a.l.head? = some k0 := by
      cases e : world.1.a.l with
      | nil => exact (hne e).elim
      | cons a r => exact ⟨a, rfl⟩
    have hk0 : k0 ∈ knN := hkn k0 (List.mem_of_mem_head? h0)
    refine gets_bind (P := fun g : Int × List Int => 0 ≤ g.1) (gets_bind (gets_draw (by decide)) fun d hd => ?_) fun moment hm => ?_
    · have hpos : 0 < lenI world.1.b + 1 := by unfold lenI; omega
      rw [modM_ok hpos, ok_bind]
      exact gets_ok (Int.emod_nonneg _ (by omega))
    refine gets_bind (gets_draw (by decide)) fun method _ => ?_
    refine gets_bind (P := fun g : P × List Int => bdB g.1 = true) (gets_bind (gets_draw (by decide)) fun d hd => ?_) fun strange hst => ?_
    · have h11 : ∀ i : Fin 11, ∃ p, pixP strangeP ((i.1 : Nat) : Int) = .ok p ∧ bdB p = true := fun i => by
        match i with
        | ⟨0, _⟩ => exact ⟨_, rfl, by decide +kernel⟩
        | ⟨1, _⟩ => exact ⟨_, rfl, by decide +kernel⟩
        | ⟨2, _⟩ => exact ⟨_, rfl, by decide +kernel⟩
        | ⟨3, _⟩ => exact ⟨_, rfl, by decide +kernel⟩
        | ⟨4, _⟩ => exact ⟨_, rfl, by decide +kernel⟩
        | ⟨5, _⟩ => exact ⟨_, rfl, by decide +kernel⟩
        | ⟨6, _⟩ => exact ⟨_, rfl, by decide +kernel⟩
        | ⟨7, _⟩ => exact ⟨_, rfl, by decide +kernel⟩
        | ⟨8, _⟩ => exact ⟨_, rfl, by decide +kernel⟩
        | ⟨9, _⟩ => exact ⟨_, rfl, by decide +kernel⟩
        | ⟨10, _⟩ => exact ⟨_, rfl, by decide +kernel⟩
      obtain ⟨p, e1, e2⟩ := h11 ⟨d.1.toNat, by omega⟩
      have : ((d.1.toNat : Nat) : Int) = d.1 := by omega
      dsimp only at e1
      rw [this] at e1
      rw [e1, ok_bind]
      exact gets_ok e2
    refine gets_bind (gets_draw (by decide)) fun finish _ => ?_
    have hfin : (runG ds g0).fin = false := run_fin hf
    have hi := iv0.runG hd
    obtain ⟨m, em⟩ : ∃ m : Nat, moment.1 = (m : Int) := ⟨moment.1.toNat, by omega⟩
    rw [ok_bind, eb, walked_ok (by omega) hd hf (by omega), calm_ok, ok_bind, if_neg (by simp), noname_ok (by omega) hd hf (by omega) hst, calm_ok, ok_bind, ok_bind, if_neg (by simp), em, twinned_ok (by omega) hd hf (by omega) h0 hk0, calm_ok, ok_bind, if_neg (by simp), ok_bind]
    by_cases c1 : finish.1 = 1
    · have c2 : finish.1 ≠ 2 := by omega
      have c0 : finish.1 ≠ 0 := by omega
      rw [if_pos (decide_eq_true c1), finish_ok hfin, calm_ok, ok_bind, ok_bind, if_neg (by simp), ok_bind, if_neg (by rw [decide_eq_false c2]; simp), ok_bind, if_neg (by simp), ok_bind, if_neg (by rw [decide_eq_false c0]; simp), ended_ok (by omega) hd (by omega) h0, calm_ok, ok_bind]
      exact gets_ok rfl
    · rw [if_neg (by rw [decide_eq_false c1]; simp), ok_bind, if_neg (by simp), ok_bind]
      by_cases c2 : finish.1 = 2
      · have c0 : finish.1 ≠ 0 := by omega
        have e2 : n_Gate_take (runG ds g0) finP = .ok (.non, stp (runG ds g0) .fin) := take_ok hi (by omega) (d := .fin) hfin trivial
        rw [if_pos (decide_eq_true c2), e2, calm_ok, ok_bind, ok_bind, if_neg (by simp [P.isNon]), ok_bind, if_neg (by rw [decide_eq_false c0]; simp), ended_ok (by omega) hd (by omega) h0, calm_ok, ok_bind]
        exact gets_ok rfl
      · have c0 : finish.1 = 0 := by omega
        rw [if_neg (by rw [decide_eq_false c2]; simp), ok_bind, if_neg (by simp), ok_bind, if_pos (decide_eq_true c0)]
        exact gets_ok rfl
  exact e
end G
end
section
namespace G
open PySem L2 M N
theorem pure_ok : Pure := fun ns _ _ => ⟨[], by
  have h := (sp_law ⟨ns⟩).h
  rw [law_ok] at h
  exact h⟩
end G
end
section
set_option maxRecDepth 100000 in
set_option maxHeartbeats 0 in
theorem PySem.Challenge.cw_movedstates_k05_what_the_gate_lets_in_holds : PySem.Challenge.rw_movedstates_k05_what_the_gate_lets_in.Holds := by
  exact holds_of G.pure_ok
end

import PyProof.Rows.All
import Wide.All
import OpenK.AllK
import Wide.FinOn
import HandS.ForMost
import HandS.Exc
import HandS.ExcOwn
import HandS.WordsExc
import HandS.HeadHook1
import HandS.HeadHook2
import HandS.Lambda
import HandS.EndTab
import HandS.TupAny
import HandS.TupMul
import HandS.Style
import HandS.Defaults
import HandS.CallSlots
import KE.KSuper
import KE.SortKeyHeap
import KE.SortData
import HandS.New0
import KE.KExcSuper
import HandS.ExcInit
import KE.KExcIs
import HandS.ExcIs
import HandS.IsInst
import HandS.Deep
import HandS.Conv
import HandS.Dict
import PyProof.TupleOfSeq
import HandS.ExcValue
import HandS.Head0
import HandS.Head1
import HandS.Head2
import HandS.HeadEnd
import KE.KStateDown
import KE.DataAny
import HandS.SortRule
import HandS.Property
import HandS.ClsMeth
import HandS.SlotsOwn
import HandS.Text
import HandS.TryOnly
import HandS.NamedTupGet
import KE.DataMinKey
import HandS.SetFor
import HandS.Zip
import HandS.Iter
import HandS.DictComp
import HandS.FStr
import HandS.Strs
import Lean
import PySem.Challenge.RW_movedstates_k48_holder_by_its_lineup
section
set_option Elab.async false
set_option linter.all false
set_option maxRecDepth 100000
set_option maxHeartbeats 0
namespace M
open PySem L2
/-- frozen deep data -/
inductive P where
  | non | bl (b : Bool) | int (i : Int) | str (s : Str) | tup (xs : List P) | lst (xs : List P) | rol (xs : List P) | dct (kvs : List (Key × P)) | obj (c : Str) (fs : List (Str × P)) | cls (c : Str)
/-- a value: frozen data, or a mutable cell -/
inductive D where
  | fz (p : P) | cell (n : Nat)
/-- what a mutable cell holds -/
inductive Ct where
  | lst (xs : List P) | dct (kvs : List (Key × P)) | obj (c : Str) (fs : List (Str × D)) | frz (p : P) | lsD (xs : List D) | tuD (xs : List D) | ldct (kvs : List (Key × P))
abbrev Et := List (Option D)
abbrev Sr := List Ct
/-- a run's end: a value; an exception (its class, its own fields, the slots and the store behind it); not carried -/
inductive R (α : Type) where
  | ok (a : α) | exc (c : Str) (fs : Option (List (Str × P))) (η : Et) (st : Sr) | stuck
abbrev DE := Et → Sr → R (D × Sr)
abbrev DA := Et → Sr → R (List D × Sr)
abbrev DT := Et → Sr → R (Bool × Sr)
inductive Fl where
  | nx | rt (d : D) | bk | ct
abbrev DS := Et → Sr → R (Fl × Et × Sr)
abbrev DF := List D → Sr → R (D × Sr)
section
variable (K : PySem.W.Frag)
mutual
def Rep (Z : Hp) : P → V → Prop
  | .non, v => v = .non
  | .bl b, v => v = .bl b
  | .int i, v => v = .int i
  | .str s, v => v = .str s
  | .tup xs, v => ∃ a vs, v = .ref a ∧ SqT K Z a vs ∧ Reps Z xs vs
  | .lst xs, v => ∃ a vs, v = .ref a ∧ Z a = some (.lst vs) ∧ Reps Z xs vs
  | .rol xs, v => ∃ a vs, v = .ref a ∧ SqL K Z a vs ∧ Reps Z xs vs
  | .dct kvs, v => ∃ a kws, v = .ref a ∧ Z a = some (.dK kws) ∧ RepK Z kvs kws
  | .obj c fs, v => ∃ a dx gs, v = .ref a ∧ Z a = some (.ins (He.ga K c) dx gs) ∧ RepF Z fs gs
  | .cls c, v => v = .ref (He.ga K c)
def Reps (Z : Hp) : List P → List V → Prop
  | [], vs => vs = []
  | p :: ps, vs => ∃ v ws, vs = v :: ws ∧ Rep Z p v ∧ Reps Z ps ws
def RepK (Z : Hp) : List (Key × P) → List (Key × V) → Prop
  | [], vs => vs = []
  | (k, p) :: ps, vs => ∃ v ws, vs = (k, v) :: ws ∧ Rep Z p v ∧ RepK Z ps ws
def RepF (Z : Hp) : List (Str × P) → List (Str × V) → Prop
  | [], vs => vs = []
  | (k, p) :: ps, vs => ∃ v ws, vs = (k, v) :: ws ∧ Rep Z p v ∧ RepF Z ps ws
end
def RepD (Z : Hp) (φ : List Addr) : D → V → Prop
  | .fz p, v => Rep K Z p v
  | .cell n, v => ∃ a, φ[n]? = some a ∧ v = .ref a
def RepDs (Z : Hp) (φ : List Addr) : List D → List V → Prop
  | [], vs => vs = []
  | p :: ps, vs => ∃ v ws, vs = v :: ws ∧ RepD K Z φ p v ∧ RepDs Z φ ps ws
def RepDF (Z : Hp) (φ : List Addr) : List (Str × D) → List (Str × V) → Prop
  | [], vs => vs = []
  | (k, p) :: ps, vs => ∃ v ws, vs = (k, v) :: ws ∧ RepD K Z φ p v ∧ RepDF Z φ ps ws
/-- a table of code objects, an exception's dict -/
def Oth (o : HO) : Prop := (∃ ps, o = .tbl ps) ∨ ∃ gs, o = .xd gs
/-- an object of data: none of these, no told thing -/
def Dat (o : HO) : Prop := ¬ Oth o ∧ ∀ E, o ≠ .ext E
/-- a cell's content at a -/
def RelC (Z : Hp) (φ : List Addr) (H : Hp) (a : Addr) : Ct → Prop
  | .lst xs => Z a = none ∧ ∃ vs, H a = some (.lst vs) ∧ Reps K Z xs vs
  | .dct kvs => Z a = none ∧ ∃ kws, H a = some (.dK kws) ∧ RepK K Z kvs kws
  | .obj c fs => Z a = none ∧ ∃ dx gs, H a = some (.ins (He.ga K c) dx gs) ∧ RepDF K Z φ fs gs
  | .frz p => Rep K Z p (.ref a) ∧ ∃ o, H a = some o ∧ Dat o
  | .lsD xs => Z a = none ∧ ∃ vs, H a = some (.lst vs) ∧ RepDs K Z φ xs vs
  | .tuD xs => Z a = none ∧ ∃ vs, H a = some (.tup vs) ∧ RepDs K Z φ xs vs
  | .ldct kvs => Z a = none ∧ ∃ o kws, H a = some (.frz o (.dK kws)) ∧ RepK K Z kvs kws
/-- the defs that make a lambda: where the tables of their code objects stand, what the lambda's code is named -/
def lamDefs : List Str := ["BagKind.keep", "clusters", "outer_row", "run_values"]
def tabOf (K : PySem.W.Frag) : Obj → Option (Addr × Addr × Str)
  | ⟨_, _, .func fd, _⟩ => if lamDefs.contains fd.qualname then match fd.code with
    | .ref c => match K.lookup c with
      | some ⟨_, _, .fields vs, _⟩ => match vs.getD 11 .none with
        | .ref P => some (c, P, fd.qualname ++ ".<locals>." ++ "<lambda>")
        | _ => none
      | _ => none
    | _ => none
    else none
  | _ => none
def tabsAll (K : PySem.W.Frag) : List (Addr × Addr × Str) := K.filterMap fun p => tabOf K p.2
def tabsOf (K : PySem.W.Frag) : List (Addr × Str) := (tabsAll K).map (·.2)
structure RS (Z : Hp) (φ : List Addr) (st : Sr) (H : Hp) : Prop where
  same : Same Z H
  len : φ.length = st.length
  nd : φ.Nodup
  cells : ∀ (i : Nat) a c, φ[i]? = some a → st[i]? = some c → RelC K Z φ H a c
  tb : LamX.Tabs (tabsOf K) H
  zd : ∀ b ps, Z b ≠ some (.tbl ps)
structure Slots (Z : Hp) (φ : List Addr) (η : Et) (σ : St) : Prop where
  len : η.length = σ.length
  at_ : ∀ (i : Nat) d, η[i]? = some (some d) → ∃ v, σ[i]? = some (some v) ∧ RepD K Z φ d v
end
/-- nothing stands at a, or a table, an exception's dict -/
def Fre (H : Hp) (a : Addr) : Prop := ∀ o, H a = some o → Oth o
theorem Fre.of {H : Hp} {a : Addr} (h : H a = none) : Fre H a := fun o e => by rw [h] at e; cases e
theorem Fre.no {H : Hp} {a : Addr} {o : HO} (h : Fre H a) (e : H a = some o) (d : ¬ Oth o) : False := d (h o e)
/-- from one configuration to a later one -/
structure Step (Z : Hp) (φ : List Addr) (H : Hp) (Z' : Hp) (φ' : List Addr) (H' : Hp) : Prop where
  hz : Same Z Z'
  pre : ∃ ψ, φ' = φ ++ ψ ∧ ∀ a ∈ ψ, Fre H a
  fr : ∀ b o, H b = some o → b ∉ φ → ¬ Oth o → H' b = some o
  zn : ∀ b, Z' b ≠ none → Z b ≠ none ∨ Fre H b ∨ b ∈ φ
  up : ∀ b, Fre H' b → Fre H b
  lk : ∀ b q u, H b = some (.frz q u) → H' b = some (.frz q u)
theorem Step.refl {Z : Hp} {φ : List Addr} {H : Hp} : Step Z φ H Z φ H :=
  ⟨Same.refl _, ⟨[], by simp, by simp⟩, fun _ _ h _ _ => h, fun _ h => .inl h, fun _ h => h, fun _ _ _ h => h⟩
theorem Step.trans {Z Z1 Z2 : Hp} {φ φ1 φ2 : List Addr} {H H1 H2 : Hp} (a : Step Z φ H Z1 φ1 H1) (b : Step Z1 φ1 H1 Z2 φ2 H2) : Step Z φ H Z2 φ2 H2 := by
  obtain ⟨psi, rfl, h1⟩ := a.pre
  obtain ⟨psi2, rfl, h2⟩ := b.pre
  refine ⟨a.hz.trans b.hz, ⟨psi ++ psi2, by simp, fun c hc => ?_⟩, fun c o hc hn ht => ?_, fun c hc => ?_, fun c hc => a.up c (b.up c hc), fun c q u h => b.lk c q u (a.lk c q u h)⟩
  · rcases List.mem_append.mp hc with hc | hc
    · exact h1 c hc
    · exact a.up c (h2 c hc)
  · refine b.fr c o (a.fr c o hc hn ht) (fun hm => ?_) ht
    rcases List.mem_append.mp hm with hm | hm
    · exact hn hm
    · exact (h1 c hm).no hc ht
  · rcases b.zn c hc with h | h | h
    · exact a.zn c h
    · exact .inr (.inl (a.up c h))
    · rcases List.mem_append.mp h with h | h
      · exact .inr (.inr h)
      · exact .inr (.inl (h1 c h))
section
variable {K : PySem.W.Frag} {Z Z' H H' : Hp} {φ φ' : List Addr}
theorem same_sqT {a : Addr} {xs : List V} (e : Same Z Z') (h : SqT K Z a xs) : SqT K Z' a xs := by
  rcases h with (h | ⟨o, h⟩) | h
  · exact .inl (.inl (e _ _ h))
  · exact .inl (.inr ⟨o, e _ _ h⟩)
  · exact .inr h
mutual
theorem Rep.mono (e : Same Z Z') : ∀ (p : P) (v : V), Rep K Z p v → Rep K Z' p v
  | .non, v, h => by simpa [Rep] using h
  | .bl b, v, h => by simpa [Rep] using h
  | .int i, v, h => by simpa [Rep] using h
  | .str s, v, h => by simpa [Rep] using h
  | .tup xs, v, h => by
    rw [Rep] at h ⊢
    obtain ⟨a, vs, h1, h2, h3⟩ := h
    exact ⟨a, vs, h1, same_sqT e h2, Reps.mono e xs vs h3⟩
  | .lst xs, v, h => by
    rw [Rep] at h ⊢
    obtain ⟨a, vs, h1, h2, h3⟩ := h
    exact ⟨a, vs, h1, e _ _ h2, Reps.mono e xs vs h3⟩
  | .rol xs, v, h => by
    rw [Rep] at h ⊢
    obtain ⟨a, vs, h1, h2, h3⟩ := h
    exact ⟨a, vs, h1, e.seq h2, Reps.mono e xs vs h3⟩
  | .dct kvs, v, h => by
    rw [Rep] at h ⊢
    obtain ⟨a, vs, h1, h2, h3⟩ := h
    exact ⟨a, vs, h1, e _ _ h2, RepK.mono e kvs vs h3⟩
  | .obj c fs, v, h => by
    rw [Rep] at h ⊢
    obtain ⟨a, dx, vs, h1, h2, h3⟩ := h
    exact ⟨a, dx, vs, h1, e _ _ h2, RepF.mono e fs vs h3⟩
  | .cls c, v, h => by simpa [Rep] using h
theorem Reps.mono (e : Same Z Z') : ∀ (ps : List P) (vs : List V), Reps K Z ps vs → Reps K Z' ps vs
  | [], vs, h => by simpa [Reps] using h
  | p :: ps, vs, h => by
    rw [Reps] at h ⊢
    obtain ⟨v, ws, h1, h2, h3⟩ := h
    exact ⟨v, ws, h1, Rep.mono e p v h2, Reps.mono e ps ws h3⟩
theorem RepK.mono (e : Same Z Z') : ∀ (ps : List (Key × P)) (vs : List (Key × V)), RepK K Z ps vs → RepK K Z' ps vs
  | [], vs, h => by simpa [RepK] using h
  | (k, p) :: ps, vs, h => by
    rw [RepK] at h ⊢
    obtain ⟨v, ws, h1, h2, h3⟩ := h
    exact ⟨v, ws, h1, Rep.mono e p v h2, RepK.mono e ps ws h3⟩
theorem RepF.mono (e : Same Z Z') : ∀ (ps : List (Str × P)) (vs : List (Str × V)), RepF K Z ps vs → RepF K Z' ps vs
  | [], vs, h => by simpa [RepF] using h
  | (k, p) :: ps, vs, h => by
    rw [RepF] at h ⊢
    obtain ⟨v, ws, h1, h2, h3⟩ := h
    exact ⟨v, ws, h1, Rep.mono e p v h2, RepF.mono e ps ws h3⟩
end
theorem RepD.mono (e : Same Z Z') (hp : ∃ ψ, φ' = φ ++ ψ) {d : D} {v : V} (h : RepD K Z φ d v) : RepD K Z' φ' d v := by
  cases d with
  | fz p => exact Rep.mono e p v h
  | cell n =>
    obtain ⟨a, h1, h2⟩ := h
    obtain ⟨psi, rfl⟩ := hp
    obtain ⟨hl, _⟩ := List.getElem?_eq_some_iff.mp h1
    exact ⟨a, by rw [List.getElem?_append_left hl]; exact h1, h2⟩
theorem RepDs.mono (e : Same Z Z') (hp : ∃ ψ, φ' = φ ++ ψ) : ∀ {ds : List D} {vs : List V}, RepDs K Z φ ds vs → RepDs K Z' φ' ds vs
  | [], vs, h => h
  | d :: ds, vs, h => by
    obtain ⟨v, ws, h1, h2, h3⟩ := h
    exact ⟨v, ws, h1, h2.mono e hp, RepDs.mono e hp h3⟩
theorem RepDF.mono (e : Same Z Z') (hp : ∃ ψ, φ' = φ ++ ψ) : ∀ {ds : List (Str × D)} {vs : List (Str × V)}, RepDF K Z φ ds vs → RepDF K Z' φ' ds vs
  | [], vs, h => h
  | (k, d) :: ds, vs, h => by
    obtain ⟨v, ws, h1, h2, h3⟩ := h
    exact ⟨v, ws, h1, h2.mono e hp, RepDF.mono e hp h3⟩
theorem Step.app (s : Step Z φ H Z' φ' H') : ∃ ψ, φ' = φ ++ ψ := let ⟨p, h, _⟩ := s.pre; ⟨p, h⟩
theorem Slots.mono (s : Step Z φ H Z' φ' H') {η : Et} {σ : St} (h : Slots K Z φ η σ) : Slots K Z' φ' η σ :=
  ⟨h.len, fun i d e => let ⟨v, h1, h2⟩ := h.at_ i d e; ⟨v, h1, h2.mono s.hz s.app⟩⟩
theorem Slots.set {η : Et} {σ : St} (h : Slots K Z φ η σ) {i : Nat} {d : D} {v : V} (hr : RepD K Z φ d v) : Slots K Z φ (η.set i (some d)) (σ.set i (some v)) := by
  refine ⟨by simp [h.len], fun j e hj => ?_⟩
  by_cases hi : i = j
  · subst hi
    by_cases hl : i < η.length
    · rw [List.getElem?_set_self hl] at hj
      cases hj
      exact ⟨v, by rw [List.getElem?_set_self (by rw [← h.len]; exact hl)], hr⟩
    · rw [List.getElem?_eq_none (by simpa using hl)] at hj; cases hj
  · rw [List.getElem?_set_ne hi] at hj
    rw [List.getElem?_set_ne hi]
    exact h.at_ j e hj
/-- what is read of a store's value -/
def peek (st : Sr) : D → Option P
  | .fz p => some p
  | .cell n => match st[n]? with
    | some (.lst xs) => some (.lst xs)
    | some (.dct kvs) => some (.dct kvs)
    | some (.frz p) => some p
    | _ => none
theorem Reps.length : ∀ {ps : List P} {vs : List V}, Reps K Z ps vs → ps.length = vs.length
  | [], vs, h => by rw [Reps] at h; subst h; rfl
  | p :: ps, vs, h => by
    rw [Reps] at h
    obtain ⟨v, ws, rfl, _, h3⟩ := h
    simp [Reps.length h3]
theorem Reps.get : ∀ {ps : List P} {vs : List V} {i : Nat} {p : P}, Reps K Z ps vs → ps[i]? = some p → ∃ v, vs[i]? = some v ∧ Rep K Z p v
  | [], vs, i, p, h, e => by simp at e
  | q :: ps, vs, i, p, h, e => by
    rw [Reps] at h
    obtain ⟨v, ws, rfl, h2, h3⟩ := h
    cases i with
    | zero => simp at e; subst e; exact ⟨v, rfl, h2⟩
    | succ i => simpa using Reps.get h3 (by simpa using e)
theorem Reps.append : ∀ {ps qs : List P} {vs ws : List V}, Reps K Z ps vs → Reps K Z qs ws → Reps K Z (ps ++ qs) (vs ++ ws)
  | [], qs, vs, ws, h, g => by rw [Reps] at h; subst h; exact g
  | p :: ps, qs, vs, ws, h, g => by
    rw [Reps] at h
    obtain ⟨v, us, rfl, h2, h3⟩ := h
    show Reps K Z (p :: (ps ++ qs)) (v :: (us ++ ws))
    rw [Reps]
    exact ⟨v, us ++ ws, rfl, h2, h3.append g⟩
theorem Reps.one {p : P} {v : V} (h : Rep K Z p v) : Reps K Z [p] [v] := by
  rw [Reps]; exact ⟨v, [], rfl, h, by rw [Reps]⟩
theorem Reps.nil : Reps K Z [] [] := by rw [Reps]
theorem Reps.cons {p : P} {ps : List P} {v : V} {vs : List V} (h : Rep K Z p v) (t : Reps K Z ps vs) : Reps K Z (p :: ps) (v :: vs) := by
  rw [Reps]; exact ⟨v, vs, rfl, h, t⟩
/-- by their places -/
theorem Reps.of_get : ∀ {ps : List P} {vs : List V}, ps.length = vs.length → (∀ (i : Nat) p v, ps[i]? = some p → vs[i]? = some v → Rep K Z p v) → Reps K Z ps vs
  | [], [], _, _ => Reps.nil
  | [], _ :: _, e, _ => by simp at e
  | _ :: _, [], e, _ => by simp at e
  | p :: ps, v :: vs, e, h => Reps.cons (h 0 p v rfl rfl) (Reps.of_get (by simpa using e) fun i q u h1 h2 => h (i + 1) q u (by simpa using h1) (by simpa using h2))
theorem dat_lst {xs : List V} : Dat (.lst xs) := ⟨(by rintro (⟨_, z⟩ | ⟨_, z⟩) <;> cases z), fun _ z => (nomatch z)⟩
theorem dat_tup {xs : List V} : Dat (.tup xs) := ⟨(by rintro (⟨_, z⟩ | ⟨_, z⟩) <;> cases z), fun _ z => (nomatch z)⟩
theorem dat_dK {xs : List (Key × V)} : Dat (.dK xs) := ⟨(by rintro (⟨_, z⟩ | ⟨_, z⟩) <;> cases z), fun _ z => (nomatch z)⟩
theorem dat_frz {o : Obj} {u : HO} : Dat (.frz o u) := ⟨(by rintro (⟨_, z⟩ | ⟨_, z⟩) <;> cases z), fun _ z => (nomatch z)⟩
theorem dat_ins {C dx : Addr} {xs : List (Str × V)} : Dat (.ins C dx xs) := ⟨(by rintro (⟨_, z⟩ | ⟨_, z⟩) <;> cases z), fun _ z => (nomatch z)⟩
theorem tabs_upd {T : List (Addr × Str)} {a : Addr} {o : HO} (t : LamX.Tabs T H) (ha : ∀ u, H a = some u → Dat u) : LamX.Tabs T (upd H a o) := fun p hp => by
  obtain ⟨ps, h1, h2, h3⟩ := t p hp
  refine ⟨ps, by rw [upd_ne (by rintro rfl; exact (ha _ h1).1 (.inl ⟨ps, rfl⟩))]; exact h1, h2, fun pos cv hc => ?_⟩
  obtain ⟨c, e1, e2⟩ := h3 pos cv hc
  exact ⟨c, e1, by rw [upd_ne (by rintro rfl; exact (ha _ e2).2 _ rfl)]; exact e2⟩
theorem RelC.keep {a : Addr} {c : Ct} (hz : Same Z Z') (hp : ∃ ψ, φ' = φ ++ ψ) (hn : (∀ p, c ≠ .frz p) → Z' a = none) (hh : ∀ o, H a = some o → Dat o → H' a = some o) (h : RelC K Z φ H a c) : RelC K Z' φ' H' a c := by
  cases c with
  | lst xs => obtain ⟨_, vs, h1, h2⟩ := h; exact ⟨hn (by intro _ z; cases z), vs, hh _ h1 dat_lst, Reps.mono hz _ _ h2⟩
  | dct kvs => obtain ⟨_, vs, h1, h2⟩ := h; exact ⟨hn (by intro _ z; cases z), vs, hh _ h1 dat_dK, RepK.mono hz _ _ h2⟩
  | obj c fs => obtain ⟨_, dx, vs, h1, h2⟩ := h; exact ⟨hn (by intro _ z; cases z), dx, vs, hh _ h1 dat_ins, h2.mono hz hp⟩
  | frz p => obtain ⟨h1, o, h2, h3⟩ := h; exact ⟨Rep.mono hz _ _ h1, o, hh _ h2 h3, h3⟩
  | lsD xs => obtain ⟨_, vs, h1, h2⟩ := h; exact ⟨hn (by intro _ z; cases z), vs, hh _ h1 dat_lst, h2.mono hz hp⟩
  | tuD xs => obtain ⟨_, vs, h1, h2⟩ := h; exact ⟨hn (by intro _ z; cases z), vs, hh _ h1 dat_tup, h2.mono hz hp⟩
  | ldct kvs => obtain ⟨_, o, vs, h1, h2⟩ := h; exact ⟨hn (by intro _ z; cases z), o, vs, hh _ h1 dat_frz, RepK.mono hz _ _ h2⟩
theorem RelC.at2 {a : Addr} {c : Ct} (h : RelC K Z φ H a c) : ∃ o, H a = some o ∧ Dat o := by
  cases c with
  | lst xs => obtain ⟨_, vs, h1, _⟩ := h; exact ⟨_, h1, dat_lst⟩
  | dct kvs => obtain ⟨_, vs, h1, _⟩ := h; exact ⟨_, h1, dat_dK⟩
  | obj c fs => obtain ⟨_, dx, vs, h1, _⟩ := h; exact ⟨_, h1, dat_ins⟩
  | frz p => exact h.2
  | lsD xs => obtain ⟨_, vs, h1, _⟩ := h; exact ⟨_, h1, dat_lst⟩
  | tuD xs => obtain ⟨_, vs, h1, _⟩ := h; exact ⟨_, h1, dat_tup⟩
  | ldct xs => obtain ⟨_, _, vs, h1, _⟩ := h; exact ⟨_, h1, dat_frz⟩
theorem RelC.at_ {a : Addr} {c : Ct} (h : RelC K Z φ H a c) : ∃ o, H a = some o := let ⟨o, e, _⟩ := h.at2; ⟨o, e⟩
theorem RelC.free {a : Addr} {c : Ct} (h : RelC K Z φ H a c) (hc : ∀ p, c ≠ .frz p) : Z a = none := by
  cases c with
  | lst xs => exact h.1
  | dct kvs => exact h.1
  | obj c fs => exact h.1
  | frz p => exact absurd rfl (hc p)
  | lsD xs => exact h.1
  | tuD xs => exact h.1
  | ldct xs => exact h.1
theorem RS.at_ {st : Sr} (h : RS K Z φ st H) {i : Nat} {a : Addr} (e : φ[i]? = some a) : ∃ c, st[i]? = some c ∧ RelC K Z φ H a c := by
  have hl : i < st.length := by rw [← h.len]; exact (List.getElem?_eq_some_iff.mp e).1
  exact ⟨_, List.getElem?_eq_getElem hl, h.cells i a _ e (List.getElem?_eq_getElem hl)⟩
theorem RS.some_ {st : Sr} (h : RS K Z φ st H) {a : Addr} (e : a ∈ φ) : ∃ o, H a = some o := by
  obtain ⟨i, hi⟩ := List.getElem?_of_mem e
  obtain ⟨c, _, r⟩ := h.at_ hi
  exact r.at_
/-- the cell n gets another content, its object another one -/
theorem RS.write {st : Sr} (h : RS K Z φ st H) {n : Nat} {a : Addr} {c : Ct} {o : HO} (e : φ[n]? = some a) (hz : Z a = none) (hc : RelC K Z φ (upd H a o) a c) (hk : ∀ q u, H a ≠ some (.frz q u)) : RS K Z φ (st.set n c) (upd H a o) ∧ Step Z φ H Z φ (upd H a o) := by
  have ha : a ∈ φ := List.mem_of_getElem? e
  refine ⟨⟨fun b u hb => ?_, by simp [h.len], h.nd, fun i b c' hi hc' => ?_, tabs_upd h.tb (fun u hu => ?_), h.zd⟩, ⟨Same.refl _, ⟨[], by simp, by simp⟩, fun b u hb hn _ => ?_, fun b hb => .inl hb, fun b hb => ?_, fun b q u hb => by rw [upd_ne (by rintro rfl; exact hk q u hb)]; exact hb⟩⟩
  · rw [upd_ne (by rintro rfl; rw [hz] at hb; cases hb)]; exact h.same b u hb
  · by_cases hin : i = n
    · subst hin
      rw [e] at hi; cases hi
      have hl : i < st.length := by rw [← h.len]; exact (List.getElem?_eq_some_iff.mp e).1
      rw [List.getElem?_set_self hl] at hc'; cases hc'
      exact hc
    · rw [List.getElem?_set_ne (Ne.symm hin)] at hc'
      have nb : b ≠ a := by
        rintro rfl
        exact hin (nodup_ix' h.nd hi e)
      exact (h.cells i b c' hi hc').keep (Same.refl _) ⟨[], by simp⟩ (fun q => (h.cells i b c' hi hc').free q) fun u hu _ => by rw [upd_ne nb]; exact hu
  · obtain ⟨c0, hc0, r0⟩ := h.at_ e
    obtain ⟨u', e1, e2⟩ := r0.at2
    rw [hu] at e1; cases e1; exact e2
  · rw [upd_ne (by rintro rfl; exact hn ha)]; exact hb
  · by_cases q : b = a
    · subst q
      obtain ⟨u', e1, e2⟩ := hc.at2
      exact (hb.no e1 e2.1).elim
    · exact fun o ho => hb o (by rw [upd_ne q]; exact ho)
where
  nodup_ix' {N : List Addr} (hN : N.Nodup) {i j : Nat} {x : Addr} (a : N[i]? = some x) (b : N[j]? = some x) : i = j := by
    obtain ⟨h1, e1⟩ := List.getElem?_eq_some_iff.mp a
    obtain ⟨h2, e2⟩ := List.getElem?_eq_some_iff.mp b
    exact (List.getElem_inj hN).mp (e1.trans e2.symm)
/-- a new cell at the end -/
theorem RS.new {st : Sr} (h : RS K Z φ st H) {a : Addr} {c : Ct} {o : HO} (ha : H a = none) (hc : Z a = none → RelC K Z (φ ++ [a]) (upd H a o) a c) : RS K Z (φ ++ [a]) (st ++ [c]) (upd H a o) ∧ Step Z φ H Z (φ ++ [a]) (upd H a o) := by
  have hz : Z a = none := h.same.free ha
  have na : a ∉ φ := fun hm => by obtain ⟨u, hu⟩ := h.some_ hm; rw [ha] at hu; cases hu
  refine ⟨⟨fun b u hb => ?_, by simp [h.len], ?_, fun i b c' hi hc' => ?_, tabs_upd h.tb (fun u hu => by rw [ha] at hu; cases hu), h.zd⟩, ⟨Same.refl _, ⟨[a], rfl, by simpa using Fre.of ha⟩, fun b u hb hn _ => ?_, fun b hb => .inl hb, fun b hb => ?_, fun b q u hb => by rw [upd_ne (by rintro rfl; rw [ha] at hb; cases hb)]; exact hb⟩⟩
  · rw [upd_ne (by rintro rfl; rw [hz] at hb; cases hb)]; exact h.same b u hb
  · exact List.nodup_append.mpr ⟨h.nd, by simp, fun x hx y hy => by simp at hy; subst hy; rintro rfl; exact na hx⟩
  · by_cases hl : i < φ.length
    · rw [List.getElem?_append_left hl] at hi
      rw [List.getElem?_append_left (by rw [← h.len]; exact hl)] at hc'
      have nb : b ≠ a := by rintro rfl; exact na (List.mem_of_getElem? hi)
      exact (h.cells i b c' hi hc').keep (Same.refl _) ⟨[a], rfl⟩ (fun q => (h.cells i b c' hi hc').free q) fun u hu _ => by rw [upd_ne nb]; exact hu
    · rw [List.getElem?_append_right (by omega)] at hi
      rw [List.getElem?_append_right (by rw [← h.len]; omega), ← h.len] at hc'
      cases hk : i - φ.length with
      | zero => rw [hk] at hi hc'; simp at hi hc'; subst hi hc'; exact hc hz
      | succ k => rw [hk] at hi; simp at hi
  · rw [upd_ne (by rintro rfl; rw [ha] at hb; cases hb)]; exact hb
  · by_cases q : b = a
    · subst q; exact .of ha
    · exact fun o ho => hb o (by rw [upd_ne q]; exact ho)
/-- a new frozen thing -/
theorem RS.newZ {st : Sr} (h : RS K Z φ st H) {a : Addr} {o : HO} (ha : H a = none) (hd : ∀ ps, o ≠ .tbl ps := by intro _ z; cases z) : RS K (upd Z a o) φ st (upd H a o) ∧ Step Z φ H (upd Z a o) φ (upd H a o) := by
  have hz : Z a = none := h.same.free ha
  have na : a ∉ φ := fun hm => by obtain ⟨u, hu⟩ := h.some_ hm; rw [ha] at hu; cases hu
  have sz : Same Z (upd Z a o) := fun b u hb => by rw [upd_ne (by rintro rfl; rw [hz] at hb; cases hb)]; exact hb
  refine ⟨⟨fun b u hb => ?_, h.len, h.nd, fun i b c' hi hc' => ?_, tabs_upd h.tb (fun u hu => by rw [ha] at hu; cases hu), fun b ps z => ?_⟩, ⟨sz, ⟨[], by simp, by simp⟩, fun b u hb hn _ => ?_, fun b hb => ?_, fun b hb => ?_, fun b q u hb => by rw [upd_ne (by rintro rfl; rw [ha] at hb; cases hb)]; exact hb⟩⟩
  · by_cases q : b = a
    · subst q; rw [upd_same] at hb ⊢; exact hb
    · rw [upd_ne q] at hb ⊢; exact h.same b u hb
  · have nb : b ≠ a := by rintro rfl; exact na (List.mem_of_getElem? hi)
    exact (h.cells i b c' hi hc').keep sz ⟨[], by simp⟩ (fun q => by rw [upd_ne nb]; exact (h.cells i b c' hi hc').free q) fun u hu _ => by rw [upd_ne nb]; exact hu
  · by_cases q : b = a
    · subst q; rw [upd_same] at z; cases z; exact hd ps rfl
    · rw [upd_ne q] at z; exact h.zd b ps z
  · rw [upd_ne (by rintro rfl; rw [ha] at hb; cases hb)]; exact hb
  · by_cases q : b = a
    · subst q; exact .inr (.inl (.of ha))
    · rw [upd_ne q] at hb; exact .inl hb
  · by_cases q : b = a
    · subst q; exact .of ha
    · exact fun o ho => hb o (by rw [upd_ne q]; exact ho)
end
end M
end
section
set_option Elab.async false
set_option linter.all false
set_option maxRecDepth 100000
set_option maxHeartbeats 0
namespace M
open PySem L2
def R.bind {α β : Type} (r : R α) (k : α → R β) : R β := match r with
  | .ok a => k a
  | .exc c fs η st => .exc c fs η st
  | .stuck => .stuck
section
variable (K : PySem.W.Frag) (W : WX)
def AfX (Z : Hp) (φ : List Addr) (H : Hp) (c : Str) (fs : Option (List (Str × P))) (η : Et) (st : Sr) : Prop :=
  ∀ σ' H' Z' φ', Step Z φ H Z' φ' H' → RS K Z' φ' st H' → Slots K Z' φ' η σ' → match fs with
    | none => W (.ref (He.ga K c)) none σ' H'
    | some fs => ∀ dx gs, H' dx = some (.xd gs) → RepF K Z' fs gs → W (.ref (He.ga K c)) (some dx) σ' H'
def Af {α : Type} (Z : Hp) (φ : List Addr) (H : Hp) (r : R α) (G : α → Hp → List Addr → Hp → Prop) : Prop := match r with
  | .ok a => ∀ Z' φ' H', Step Z φ H Z' φ' H' → G a Z' φ' H'
  | .exc c fs η st => AfX K W Z φ H c fs η st
  | .stuck => False
def GE (Q : VK) : (D × Sr) → Hp → List Addr → Hp → Prop := fun r Z' φ' H' => RS K Z' φ' r.2 H' → ∀ v, RepD K Z' φ' r.1 v → Q v H'
def GA (Q : List V → Hp → Prop) : (List D × Sr) → Hp → List Addr → Hp → Prop := fun r Z' φ' H' => RS K Z' φ' r.2 H' → ∀ vs, RepDs K Z' φ' r.1 vs → Q vs H'
def GT (Q : Bool → Hp → Prop) : (Bool × Sr) → Hp → List Addr → Hp → Prop := fun r Z' φ' H' => RS K Z' φ' r.2 H' → Q r.1 H'
def GS (E : Ends) : (Fl × Et × Sr) → Hp → List Addr → Hp → Prop := fun r Z' φ' H' => RS K Z' φ' r.2.2 H' → match r.1 with
  | .nx => ∀ σ', Slots K Z' φ' r.2.1 σ' → E.nx σ' H'
  | .bk => ∀ σ', Slots K Z' φ' r.2.1 σ' → E.bk σ' H'
  | .ct => ∀ σ', Slots K Z' φ' r.2.1 σ' → E.ct σ' H'
  | .rt d => ∀ v, RepD K Z' φ' d v → E.rt v H'
def Rd4 {α : Type} (f : Et → Sr → R α) (σ : St) (H : Hp) (G : α → Hp → List Addr → Hp → Prop) : Prop :=
  ∃ Z φ η st, RS K Z φ st H ∧ Slots K Z φ η σ ∧ Af K W Z φ H (f η st) G
def tE (f : DE) : TE := fun σ H Q => Rd4 K W f σ H (GE K Q)
def tA (f : DA) : TA := fun σ H Q => Rd4 K W f σ H (GA K Q)
def tT (f : DT) : TT := fun σ H Q => Rd4 K W f σ H (GT K Q)
def tS (f : DS) : TS := fun E σ H => Rd4 K W f σ H (GS K E)
end
section
variable {K : PySem.W.Frag} {W : WX} {Z Z1 : Hp} {φ φ1 : List Addr} {H H1 : Hp} {α β : Type}
theorem Af.later {r : R α} {G : α → Hp → List Addr → Hp → Prop} (s : Step Z φ H Z1 φ1 H1) (h : Af K W Z φ H r G) : Af K W Z1 φ1 H1 r G := by
  cases r with
  | ok a => exact fun Z' φ' H' t => h Z' φ' H' (s.trans t)
  | exc c fs η st => exact fun σ' H' Z' φ' t => h σ' H' Z' φ' (s.trans t)
  | stuck => exact h
theorem Af.mono {r : R α} {G G' : α → Hp → List Addr → Hp → Prop} (i : ∀ a Z' φ' H', Step Z φ H Z' φ' H' → G a Z' φ' H' → G' a Z' φ' H') (h : Af K W Z φ H r G) : Af K W Z φ H r G' := by
  cases r with
  | ok a => exact fun Z' φ' H' t => i _ _ _ _ t (h Z' φ' H' t)
  | exc c fs η st => exact h
  | stuck => exact h
theorem Af.bind {r : R α} {k : α → R β} {G : β → Hp → List Addr → Hp → Prop} (h : Af K W Z φ H (r.bind k) G) : Af K W Z φ H r (fun a Z1 φ1 H1 => Af K W Z1 φ1 H1 (k a) G) := by
  cases r with
  | ok a => exact fun Z' φ' H' t => Af.later t h
  | exc c fs η st => exact h
  | stuck => exact h
theorem Af.here {d : D} {st : Sr} {Q : VK} {v : V} (h : Af K W Z φ H (.ok (d, st)) (GE K Q)) (rs : RS K Z φ st H) (r : RepD K Z φ d v) : Q v H := h _ _ _ .refl rs v r
theorem Af.hereT {b : Bool} {st : Sr} {Q : Bool → Hp → Prop} (h : Af K W Z φ H (.ok (b, st)) (GT K Q)) (rs : RS K Z φ st H) : Q b H := h _ _ _ .refl rs
/-- a new cell's object is laid -/
theorem Af.cell {st : Sr} {c : Ct} {o : HO} {Q : VK} {p : Addr} (h : Af K W Z φ H (.ok (.cell st.length, st ++ [c])) (GE K Q)) (rs : RS K Z φ st H) (hp : H p = none) (hc : Z p = none → RelC K Z (φ ++ [p]) (upd H p o) p c) : Q (.ref p) (upd H p o) := by
  obtain ⟨rs', s⟩ := rs.new hp hc
  exact h _ _ _ s rs' _ ⟨p, by rw [← rs.len]; simp, rfl⟩
theorem Af.newZ {st : Sr} {d : P} {o : HO} {Q : VK} {p : Addr} (h : Af K W Z φ H (.ok (.fz d, st)) (GE K Q)) (rs : RS K Z φ st H) (hp : H p = none) (hc : Same Z (upd Z p o) → Rep K (upd Z p o) d (.ref p)) (hd : ∀ ps, o ≠ .tbl ps := by intro _ z; cases z) : Q (.ref p) (upd H p o) := by
  obtain ⟨rs', s⟩ := rs.newZ (o := o) hp hd
  exact h _ _ _ s rs' _ (hc s.hz)
/-- a list cell from items that stand in the heap -/
theorem Af.lst {st : Sr} {xs : List P} {vs : List V} {Q : VK} {p : Addr} (h : Af K W Z φ H (.ok (.cell st.length, st ++ [.lst xs])) (GE K Q)) (rs : RS K Z φ st H) (hp : H p = none) (r : Reps K Z xs vs) : Q (.ref p) (upd H p (.lst vs)) :=
  h.cell rs hp fun hz => ⟨hz, vs, upd_same, r⟩
end
section
variable {X : Cx} {W : WX}
theorem _root_.L2.PE.to {e : Expr} {t t' : TE} (h : PE X e t) (i : ∀ σ H Q, t' σ H Q → t σ H Q) : PE X e t' := ⟨fun pins s σ H Q I q => h.run pins s σ H Q I (i σ H Q q)⟩
theorem _root_.L2.PT.to {e : Expr} {t t' : TT} (h : PT X e t) (i : ∀ σ H Q, t' σ H Q → t σ H Q) : PT X e t' := ⟨fun pins s σ H Q I q => h.run pins s σ H Q I (i σ H Q q)⟩
theorem _root_.L2.PW.to {e : Expr} {t t' : TT} (h : PW X e t) (i : ∀ σ H Q, t' σ H Q → t σ H Q) : PW X e t' := ⟨fun wh pins s σ H Q I q => h.run wh pins s σ H Q I (i σ H Q q)⟩
theorem _root_.L2.PA.to {e : List Expr} {t t' : TA} (h : PA X e t) (i : ∀ σ H Q, t' σ H Q → t σ H Q) : PA X e t' := ⟨fun pos pins s σ H Q I q => h.run pos pins s σ H Q I (i σ H Q q)⟩
theorem _root_.L2.PS.to {e : Stmt} {t t' : TS} (h : PS X e t) (i : ∀ D σ H, t' D σ H → t D σ H) : PS X e t' := ⟨fun pins s σ H D I q => h.run pins s σ H D I (i D σ H q)⟩
theorem _root_.L2.PSs.to {e : List Stmt} {t t' : TS} (h : PSs X e t) (i : ∀ D σ H, t' D σ H → t D σ H) : PSs X e t' := ⟨fun pins s σ H D I q => h.run pins s σ H D I (i D σ H q)⟩
variable {K : PySem.W.Frag}
end
def dVar (i : Nat) : DE := fun η st => match η[i]? with
  | some (some d) => .ok (d, st)
  | _ => .stuck
def dK (p : P) : DE := fun _ st => .ok (.fz p, st)
def dBin (o : D → D → Sr → R (D × Sr)) (f g : DE) : DE := fun η st => (f η st).bind fun a => (g η a.2).bind fun b => o a.1 b.1 b.2
def dUn (o : D → Sr → R (D × Sr)) (f : DE) : DE := fun η st => (f η st).bind fun a => o a.1 a.2
def dNil : DA := fun _ st => .ok ([], st)
def dCons (f : DE) (g : DA) : DA := fun η st => (f η st).bind fun a => (g η a.2).bind fun b => .ok (a.1 :: b.1, b.2)
def dAp (o : List D → Sr → R (D × Sr)) (g : DA) : DE := fun η st => (g η st).bind fun a => o a.1 a.2
/-- an operation on values by the store -/
def rM (K : PySem.W.Frag) (W : WX) (o : D → D → Sr → R (D × Sr)) : R2 := fun x y H Q => ∃ d e, ∃ Z φ st, RS K Z φ st H ∧ RepD K Z φ d x ∧ RepD K Z φ e y ∧ Af K W Z φ H (o d e st) (GE K Q)
def rM1 (K : PySem.W.Frag) (W : WX) (o : D → Sr → R (D × Sr)) : V → Hp → VK → Prop := fun x H Q => ∃ d, ∃ Z φ st, RS K Z φ st H ∧ RepD K Z φ d x ∧ Af K W Z φ H (o d st) (GE K Q)
def rMA (K : PySem.W.Frag) (W : WX) (o : List D → Sr → R (D × Sr)) : List V → Hp → VK → Prop := fun xs H Q => ∃ ds, ∃ Z φ st, RS K Z φ st H ∧ RepDs K Z φ ds xs ∧ Af K W Z φ H (o ds st) (GE K Q)
def rMM (K : PySem.W.Frag) (W : WX) (o : D → List D → Sr → R (D × Sr)) : V → List V → Hp → VK → Prop := fun x xs H Q => ∃ d ds, ∃ Z φ st, RS K Z φ st H ∧ RepD K Z φ d x ∧ RepDs K Z φ ds xs ∧ Af K W Z φ H (o d ds st) (GE K Q)
section
variable {X : Cx} {W : WX} {a b e : Expr} {es : List Expr} {pos : Pos} {f g : DE} {fs : DA}
theorem de_var (i : Nat) {x : Str} (hN : X.N[i]? = some x := by rfl) (hv : Vis X.env.scope x := by first | exact Or.inl rfl | exact Or.inr (Or.inl rfl) | exact Or.inr (Or.inr rfl)) (hd : (x == ("__debug__" : Str)) = false := by decide)
    (hcd : (x == ("__classdict__" : Str)) = false := by decide) : PE X (.Name x pos) (tE X.K W (dVar i)) := by
  refine (pe_var (i := i) hN hv hd hcd).to fun σ H Q h => ?_
  obtain ⟨Z, φ, η, st, rs, sl, af⟩ := h
  unfold dVar at af
  split at af
  · rename_i d e
    obtain ⟨v, h1, h2⟩ := sl.at_ i d e
    exact ⟨v, h1, af.here rs h2⟩
  · exact af.elim
theorem de_int {i : Int} {j} : PE X (.Constant (.int i) j pos) (tE X.K W (dK (.int i))) := pe_int.to fun σ H Q ⟨Z, φ, η, st, rs, sl, af⟩ => af.here rs (by show Rep _ _ _ _; rw [Rep])
theorem de_bl {i : Bool} {j} : PE X (.Constant (.bool i) j pos) (tE X.K W (dK (.bl i))) := pe_bl.to fun σ H Q ⟨Z, φ, η, st, rs, sl, af⟩ => af.here rs (by show Rep _ _ _ _; rw [Rep])
theorem de_str {i : Str} {j} : PE X (.Constant (.str i) j pos) (tE X.K W (dK (.str i))) := pe_str.to fun σ H Q ⟨Z, φ, η, st, rs, sl, af⟩ => af.here rs (by show Rep _ _ _ _; rw [Rep])
theorem de_bin {op : Operator} {o : D → D → Sr → R (D × Sr)} (ho : OpR X (binaryOp op) (rM X.K W o)) (ha : PE X a (tE X.K W f)) (hb : PE X b (tE X.K W g)) : PE X (.BinOp a op b pos) (tE X.K W (dBin o f g)) := by
  refine (pe_op ho ha hb).to fun σ H Q h => ?_
  obtain ⟨Z, φ, η, st, rs, sl, af⟩ := h
  refine ⟨Z, φ, η, st, rs, sl, af.bind.mono fun a Z' φ' H' t g' rs' v r => ?_⟩
  refine ⟨Z', φ', η, a.2, rs', sl.mono t, g'.bind.mono fun b Z2 φ2 H2 t2 g2 rs2 u r2 => ?_⟩
  exact ⟨a.1, b.1, Z2, φ2, b.2, rs2, r.mono t2.hz t2.app, r2, g2⟩
theorem de_un {op : UnaryOp} {o : D → Sr → R (D × Sr)} (ho : UnR X (unaryOp op) (rM1 X.K W o)) (ha : PE X a (tE X.K W f)) : PE X (.UnaryOp op a pos) (tE X.K W (dUn o f)) := by
  refine (pe_un ho ha).to fun σ H Q h => ?_
  obtain ⟨Z, φ, η, st, rs, sl, af⟩ := h
  refine ⟨Z, φ, η, st, rs, sl, af.bind.mono fun a Z' φ' H' t g' rs' v r => ?_⟩
  exact ⟨a.1, Z', φ', a.2, rs', r, g'⟩
theorem de_cmp {op : CmpOp} {o : D → D → Sr → R (D × Sr)} (ho : OpR X (compareOp op) (rM X.K W o)) (ha : PE X a (tE X.K W f)) (hb : PE X b (tE X.K W g)) (hm : behindInMarks op b = false := by first | exact nomark _ | rfl) : PE X (.Compare a [op] [b] pos) (tE X.K W (dBin o f g)) := by
  refine (pe_cmpR ho ha hb hm).to fun σ H Q h => ?_
  obtain ⟨Z, φ, η, st, rs, sl, af⟩ := h
  refine ⟨Z, φ, η, st, rs, sl, af.bind.mono fun a Z' φ' H' t g' rs' v r => ?_⟩
  refine ⟨Z', φ', η, a.2, rs', sl.mono t, g'.bind.mono fun b Z2 φ2 H2 t2 g2 rs2 u r2 => ?_⟩
  exact ⟨a.1, b.1, Z2, φ2, b.2, rs2, r.mono t2.hz t2.app, r2, g2⟩
theorem da_nil : PA X [] (tA X.K W dNil) := pa_nil.to fun σ H Q ⟨Z, φ, η, st, rs, sl, af⟩ => af _ _ _ .refl rs [] rfl
theorem da_cons (ha : PE X e (tE X.K W f)) (hr : PA X es (tA X.K W fs)) (hs : starEach (e :: es) X.env = (false, eval e X.env) :: starEach es X.env := by rfl) : PA X (e :: es) (tA X.K W (dCons f fs)) := by
  refine (pa_cons ha hr hs).to fun σ H Q h => ?_
  obtain ⟨Z, φ, η, st, rs, sl, af⟩ := h
  refine ⟨Z, φ, η, st, rs, sl, af.bind.mono fun a Z' φ' H' t g' rs' v r => ?_⟩
  refine ⟨Z', φ', η, a.2, rs', sl.mono t, g'.bind.mono fun b Z2 φ2 H2 t2 g2 rs2 us r2 => ?_⟩
  exact g2 _ _ _ .refl rs2 _ ⟨v, us, rfl, r.mono t2.hz t2.app, r2⟩
/-- f(e, ..), f a built-in function; a built-in class -/
theorem de_callB {id : String} {x : Str} {p : Pos} {o : List D → Sr → R (D × Sr)} (hc : CallR X (.builtin id) (rMA X.K W o)) (hg : Gl X x) (hm : X.mg x = none) (hv : bootBuiltins x = some (.builtin id)) (ha : PA X (e :: es) (tA X.K W fs)) (hn : x ≠ "__name__" := by decide) (hdb : (x == ("__debug__" : Str)) = false := by decide)
    (he : starEach (e :: es) X.env = (false, eval e X.env) :: starEach es X.env := by rfl) (hpl : (backTo pos (starEach es X.env)).any (·.1) = false := by rfl) : PE X (.Call (.Name x p) (e :: es) [] pos) (tE X.K W (dAp o fs)) := by
  refine (pe_callB hc hg hm hv ha hn hdb he hpl).to fun σ H Q h => ?_
  obtain ⟨Z, φ, η, st, rs, sl, af⟩ := h
  refine ⟨Z, φ, η, st, rs, sl, af.bind.mono fun a Z' φ' H' t g' rs' v r => ?_⟩
  exact ⟨a.1, Z', φ', a.2, rs', r, g'⟩
theorem de_callTy {T : String} {x : Str} {p : Pos} {o : List D → Sr → R (D × Sr)} (hc : CallR X (.type T) (rMA X.K W o)) (hg : Gl X x) (hm : X.mg x = none) (hv : bootBuiltins x = some (.type T)) (ha : PA X (e :: es) (tA X.K W fs)) (hn : x ≠ "__name__" := by decide) (hdb : (x == ("__debug__" : Str)) = false := by decide)
    (he : starEach (e :: es) X.env = (false, eval e X.env) :: starEach es X.env := by rfl) (hpl : (backTo pos (starEach es X.env)).any (·.1) = false := by rfl) : PE X (.Call (.Name x p) (e :: es) [] pos) (tE X.K W (dAp o fs)) := by
  refine (pe_callTy hc hg hm hv ha hn hdb he hpl).to fun σ H Q h => ?_
  obtain ⟨Z, φ, η, st, rs, sl, af⟩ := h
  refine ⟨Z, φ, η, st, rs, sl, af.bind.mono fun a Z' φ' H' t g' rs' v r => ?_⟩
  exact ⟨a.1, Z', φ', a.2, rs', r, g'⟩
end
end M
end
section
set_option Elab.async false
set_option linter.all false
set_option maxRecDepth 100000
set_option maxHeartbeats 0
namespace M
open PySem L2
def PkR (K : PySem.W.Frag) (Z H : Hp) : P → V → Prop
  | .non, v => v = .non
  | .bl b, v => v = .bl b
  | .int i, v => v = .int i
  | .str s, v => v = .str s
  | .tup xs, v => ∃ a vs, v = .ref a ∧ SqT K H a vs ∧ Reps K Z xs vs
  | .lst xs, v => ∃ a vs, v = .ref a ∧ H a = some (.lst vs) ∧ Reps K Z xs vs
  | .rol xs, v => ∃ a vs, v = .ref a ∧ SqL K H a vs ∧ Reps K Z xs vs
  | .dct kvs, v => ∃ a kws, v = .ref a ∧ H a = some (.dK kws) ∧ RepK K Z kvs kws
  | .obj c fs, v => ∃ a dx gs, v = .ref a ∧ H a = some (.ins (He.ga K c) dx gs) ∧ RepF K Z fs gs
  | .cls c, v => v = .ref (He.ga K c)
section
variable {K : PySem.W.Frag} {Z H : Hp} {φ : List Addr}
theorem Rep.pk (e : Same Z H) {p : P} {v : V} (h : Rep K Z p v) : PkR K Z H p v := by
  cases p with
  | non => rw [Rep] at h; exact h
  | bl b => rw [Rep] at h; exact h
  | int b => rw [Rep] at h; exact h
  | str b => rw [Rep] at h; exact h
  | tup xs => rw [Rep] at h; obtain ⟨a, vs, h1, h2, h3⟩ := h; exact ⟨a, vs, h1, same_sqT e h2, h3⟩
  | lst xs => rw [Rep] at h; obtain ⟨a, vs, h1, h2, h3⟩ := h; exact ⟨a, vs, h1, e _ _ h2, h3⟩
  | rol xs => rw [Rep] at h; obtain ⟨a, vs, h1, h2, h3⟩ := h; exact ⟨a, vs, h1, e.seq h2, h3⟩
  | dct xs => rw [Rep] at h; obtain ⟨a, vs, h1, h2, h3⟩ := h; exact ⟨a, vs, h1, e _ _ h2, h3⟩
  | obj c xs => rw [Rep] at h; obtain ⟨a, dx, vs, h1, h2, h3⟩ := h; exact ⟨a, dx, vs, h1, e _ _ h2, h3⟩
  | cls c => rw [Rep] at h; exact h
theorem peek_pk {st : Sr} (h : RS K Z φ st H) {d : D} {p : P} {v : V} (e : peek st d = some p) (r : RepD K Z φ d v) : PkR K Z H p v := by
  cases d with
  | fz q => cases e; exact Rep.pk h.same r
  | cell n =>
    obtain ⟨a, h1, rfl⟩ := r
    obtain ⟨c, hc, rc⟩ := h.at_ h1
    unfold peek at e
    simp only [hc] at e
    cases c with
    | lst xs => cases e; obtain ⟨_, vs, h2, h3⟩ := rc; exact ⟨a, vs, rfl, h2, h3⟩
    | dct kvs => cases e; obtain ⟨_, vs, h2, h3⟩ := rc; exact ⟨a, vs, rfl, h2, h3⟩
    | obj c fs => cases e
    | lsD xs => cases e
    | tuD xs => cases e
    | ldct xs => cases e
    | frz p' => cases e; exact Rep.pk h.same rc.1
end
mutual
def toPy : P → PyData
  | .non => .none
  | .bl b => .bool b
  | .int i => .int i
  | .str s => .str s
  | .tup xs => .tuple (toPys xs)
  | .lst xs => .list (toPys xs)
  | .rol xs => .list (toPys xs)
  | .dct _ => .dict []
  | .obj _ _ => .dict []
  | .cls _ => .dict []
def toPys : List P → List PyData
  | [] => []
  | p :: ps => toPy p :: toPys ps
end
def eqP (p q : P) : Bool := PyData.eqv (toPy p) (toPy q)
def shP (p : P) : Bool := SeqAt.shaped (toPy p)
section
variable {K : PySem.W.Frag} {H : Hp}
mutual
theorem Rep.dp : ∀ (p : P) (v : V), (toPy p).canLay0 = true → Rep K H p v → Dp K H v (toPy p)
  | .non, v, _, h => by rw [Rep] at h; subst h; exact .non
  | .bl b, v, _, h => by rw [Rep] at h; subst h; exact .bl b
  | .int b, v, _, h => by rw [Rep] at h; subst h; exact .int b
  | .str b, v, _, h => by rw [Rep] at h; subst h; exact .str b
  | .tup xs, v, s, h => by rw [Rep] at h; obtain ⟨a, vs, rfl, h2, h3⟩ := h; exact .tup h2 (Reps.dp xs vs s h3)
  | .lst xs, v, s, h => by rw [Rep] at h; obtain ⟨a, vs, rfl, h2, h3⟩ := h; exact .lst (SqL.of h2) (Reps.dp xs vs s h3)
  | .rol xs, v, s, h => by rw [Rep] at h; obtain ⟨a, vs, rfl, h2, h3⟩ := h; exact .lst h2 (Reps.dp xs vs s h3)
  | .dct xs, v, s, h => by cases s
  | .obj c xs, v, s, h => by cases s
  | .cls c, v, s, h => by cases s
theorem Reps.dp : ∀ (ps : List P) (vs : List V), PyData.canLayAll0 (toPys ps) = true → Reps K H ps vs → DpAll K H vs (toPys ps)
  | [], vs, _, h => by rw [Reps] at h; subst h; exact .nil
  | p :: ps, vs, s, h => by
    rw [Reps] at h; obtain ⟨v, ws, rfl, h2, h3⟩ := h
    rw [toPys, PyData.canLayAll0, Bool.and_eq_true] at s
    exact .cons (Rep.dp p v s.1 h2) (Reps.dp ps ws s.2 h3)
end
end
abbrev szL : Nat := 16777216
theorem szL_eq : szL = sizeLine := by rw [sizeLine_eq]
def addO (d e : D) (st : Sr) : R (D × Sr) := match peek st d, peek st e with
  | some (.int i), some (.int j) => .ok (.fz (.int (i + j)), st)
  | some (.lst xs), some (.lst ys) => if xs.length + ys.length ≤ szL then .ok (.cell st.length, st ++ [.lst (xs ++ ys)]) else .stuck
  | some (.tup xs), some (.tup ys) => if xs.length + ys.length ≤ szL then .ok (.fz (.tup (xs ++ ys)), st) else .stuck
  | some (.str x), some (.str y) => if x.length + y.length ≤ szL then .ok (.fz (.str (x ++ y)), st) else .stuck
  | _, _ => .stuck
def intO (g : Int → Int → Option P) (d e : D) (st : Sr) : R (D × Sr) := match d, e with
  | .fz (.int i), .fz (.int j) => match g i j with
    | some p => .ok (.fz p, st)
    | none => .stuck
  | _, _ => .stuck
abbrev subO := intO fun i j => some (.int (i - j))
abbrev ltO := intO fun i j => some (.bl (decide (i < j)))
abbrev leO := intO fun i j => some (.bl (decide (i ≤ j)))
abbrev gtO := intO fun i j => some (.bl (decide (j < i)))
abbrev geO := intO fun i j => some (.bl (decide (j ≤ i)))
abbrev modO := intO fun i j => if 0 < j then some (.int (i % j)) else none
abbrev fdivO := intO fun i j => if 0 < j ∧ j < 1073741824 then some (.int (i / j)) else none
def mulO (d e : D) (st : Sr) : R (D × Sr) := match peek st d, peek st e with
  | some (.int i), some (.int j) => if (-(2 ^ 64) < i ∧ i < 2 ^ 64) ∨ (-(2 ^ 64) < j ∧ j < 2 ^ 64) then .ok (.fz (.int (i * j)), st) else .stuck
  | some (.tup xs), some (.int k) => if xs ≠ [] ∧ k = 1 then .ok (d, st) else if xs ≠ [] ∧ 2 ≤ k ∧ k ≤ 1000 ∧ xs.length ≤ 1000 then .ok (.fz (.tup (List.replicate k.toNat xs).flatten), st) else .stuck
  | _, _ => .stuck
def negO (d : D) (st : Sr) : R (D × Sr) := match d with
  | .fz (.int i) => .ok (.fz (.int (-i)), st)
  | _ => .stuck
def eqO (d e : D) (st : Sr) : R (D × Sr) := match peek st d, peek st e with
  | some p, some q => if shP p = true ∧ shP q = true then .ok (.fz (.bl (eqP p q)), st) else .stuck
  | _, _ => .stuck
def neO (d e : D) (st : Sr) : R (D × Sr) := match peek st d, peek st e with
  | some p, some q => if shP p = true ∧ shP q = true then .ok (.fz (.bl (!eqP p q)), st) else .stuck
  | _, _ => .stuck
def P.isNon : P → Bool
  | .non => true
  | _ => false
section
variable {X : Cx} {W : WX}
theorem fz_int {K : PySem.W.Frag} {Z : Hp} {φ : List Addr} {i : Int} {v : V} (h : RepD K Z φ (.fz (.int i)) v) : v = .int i := by
  have h' : Rep K Z (.int i) v := h
  rw [Rep] at h'; exact h'
theorem rep_int {K : PySem.W.Frag} {Z : Hp} {φ : List Addr} {i : Int} : RepD K Z φ (.fz (.int i)) (.int i) := by show Rep _ _ _ _; rw [Rep]
theorem rep_bl {K : PySem.W.Frag} {Z : Hp} {φ : List Addr} {i : Bool} : RepD K Z φ (.fz (.bl i)) (.bl i) := by show Rep _ _ _ _; rw [Rep]
theorem rep_str {K : PySem.W.Frag} {Z : Hp} {φ : List Addr} {i : Str} : RepD K Z φ (.fz (.str i)) (.str i) := by show Rep _ _ _ _; rw [Rep]
theorem rep_non {K : PySem.W.Frag} {Z : Hp} {φ : List Addr} : RepD K Z φ (.fz .non) .non := by show Rep _ _ _ _; rw [Rep]
/-- an operation on two ints -/
theorem op_int {f : Value → Value → Sem Value} {r : R2} {g : Int → Int → Option P} (ho : OpR X f r) (hg : ∀ i j p, g i j = some p → ∃ v, (∀ Z, Rep X.K Z p v) ∧ ∀ H Q, Q v H → r (.int i) (.int j) H Q) : OpR X f (rM X.K W (intO g)) := by
  intro pins s σ H x y v u Q I rx ry ⟨d, e, Z, φ, st, rs, rd, re, af⟩
  unfold intO at af
  split at af
  · rename_i i j
    obtain rfl := fz_int rd
    obtain rfl := fz_int re
    split at af
    · rename_i p hp
      obtain ⟨w, hw, hr⟩ := hg _ _ _ hp
      exact ho pins s σ H _ _ v u Q I rx ry (hr _ _ (af.here rs (show RepD X.K Z φ (.fz p) w from hw Z)))
    · exact af.elim
  · exact af.elim
theorem o_sub : OpR X (binaryOp .Sub) (rM X.K W subO) := op_int op_sub fun i j p h => by cases h; exact ⟨.int (i - j), fun Z => by rw [Rep], fun H Q q => ⟨i, j, rfl, rfl, q⟩⟩
theorem o_lt : OpR X (compareOp .Lt) (rM X.K W ltO) := op_int op_lt fun i j p h => by cases h; exact ⟨.bl (decide (i < j)), fun Z => by rw [Rep], fun H Q q => ⟨i, j, rfl, rfl, q⟩⟩
theorem o_le : OpR X (compareOp .LtE) (rM X.K W leO) := op_int op_le fun i j p h => by cases h; exact ⟨.bl (decide (i ≤ j)), fun Z => by rw [Rep], fun H Q q => ⟨i, j, rfl, rfl, q⟩⟩
theorem o_gt : OpR X (compareOp .Gt) (rM X.K W gtO) := op_int op_gt fun i j p h => by cases h; exact ⟨.bl (decide (j < i)), fun Z => by rw [Rep], fun H Q q => ⟨i, j, rfl, rfl, q⟩⟩
theorem o_ge : OpR X (compareOp .GtE) (rM X.K W geO) := op_int op_ge fun i j p h => by cases h; exact ⟨.bl (decide (j ≤ i)), fun Z => by rw [Rep], fun H Q q => ⟨i, j, rfl, rfl, q⟩⟩
theorem o_mod : OpR X (binaryOp .Mod) (rM X.K W modO) := op_int op_mod fun i j p h => by
  by_cases hj : 0 < j
  · rw [if_pos hj] at h; cases h; exact ⟨.int (i % j), fun Z => by rw [Rep], fun H Q q => ⟨i, j, rfl, rfl, hj, q⟩⟩
  · rw [if_neg hj] at h; cases h
theorem o_fdiv : OpR X (binaryOp .FloorDiv) (rM X.K W fdivO) := op_int op_fdiv fun i j p h => by
  by_cases hj : 0 < j ∧ j < 1073741824
  · rw [if_pos hj] at h; cases h; exact ⟨.int (i / j), fun Z => by rw [Rep], fun H Q q => ⟨i, j, rfl, rfl, hj, q⟩⟩
  · rw [if_neg hj] at h; cases h
theorem o_neg : UnR X (unaryOp .USub) (rM1 X.K W negO) := by
  intro pins s σ H x v Q I rx ⟨d, Z, φ, st, rs, rd, af⟩
  unfold negO at af
  split at af
  · obtain rfl := fz_int rd
    exact un_neg pins s σ H _ v Q I rx ⟨_, rfl, af.here rs rep_int⟩
  · exact af.elim
theorem o_add : OpR X (binaryOp .Add) (rM X.K W addO) := by
  intro pins s σ H x y v u Q I rx ry ⟨d, e, Z, φ, st, rs, rd, re, af⟩
  unfold addO at af
  split at af
  · rename_i i j h1 h2
    obtain rfl := peek_pk rs h1 rd
    obtain rfl := peek_pk rs h2 re
    exact op_add pins s σ H _ _ v u Q I rx ry ⟨_, _, rfl, rfl, af.here rs rep_int⟩
  · rename_i xs ys h1 h2
    obtain ⟨a, vs, rfl, ha, ra⟩ := peek_pk rs h1 rd
    obtain ⟨b, ws, rfl, hb, rb⟩ := peek_pk rs h2 re
    split at af
    · rename_i hz
      rw [ra.length, rb.length, szL_eq] at hz
      exact op_cat pins s σ H _ _ v u Q I rx ry ⟨a, b, vs, ws, rfl, rfl, ha, hb, hz, fun p hp => af.lst rs hp (ra.append rb)⟩
    · exact af.elim
  · rename_i xs ys h1 h2
    obtain ⟨a, vs, rfl, ha, ra⟩ := peek_pk rs h1 rd
    obtain ⟨b, ws, rfl, hb, rb⟩ := peek_pk rs h2 re
    split at af
    · rename_i hz
      rw [ra.length, rb.length, szL_eq] at hz
      refine op_catA pins s σ H _ _ v u Q I rx ry ⟨a, b, vs, ws, rfl, rfl, ha, hb, hz, fun z => ?_, fun _ z => ?_, fun _ _ p hp => ?_⟩
      · subst z
        have : xs = [] := List.length_eq_zero_iff.mp ra.length
        subst this
        have re' := peek_rep' rs h2 re
        exact af.here rs re'
      · subst z
        have : ys = [] := List.length_eq_zero_iff.mp rb.length
        subst this
        rw [List.append_nil] at af
        exact af.here rs (peek_rep' rs h1 rd)
      · exact af.newZ rs hp fun sz => by rw [Rep]; exact ⟨p, vs ++ ws, rfl, .inl (.inl upd_same), (ra.append rb).mono sz⟩
    · exact af.elim
  · rename_i xs ys h1 h2
    obtain rfl := peek_pk rs h1 rd
    obtain rfl := peek_pk rs h2 re
    split at af
    · rename_i hz
      rw [szL_eq] at hz
      exact op_add_str pins s σ H _ _ v u Q I rx ry ⟨_, _, rfl, rfl, hz, af.here rs rep_str⟩
    · exact af.elim
  · exact af.elim
where
  peek_rep' {K : PySem.W.Frag} {Z H : Hp} {φ : List Addr} {st : Sr} {d : D} {xs : List P} {v : V} (rs : RS K Z φ st H) (h : peek st d = some (.tup xs)) (r : RepD K Z φ d v) : RepD K Z φ (.fz (.tup xs)) v := by
    cases d with
    | fz q => cases h; exact r
    | cell n =>
      obtain ⟨a, h1, rfl⟩ := r
      obtain ⟨c, hc, rc⟩ := rs.at_ h1
      unfold peek at h
      simp only [hc] at h
      cases c with
      | lst xs => cases h
      | dct kvs => cases h
      | obj c fs => cases h
      | lsD xs => cases h
      | tuD xs => cases h
      | ldct xs => cases h
      | frz p' => cases h; exact rc.1
end
end M
end
section
set_option Elab.async false
set_option linter.all false
set_option maxRecDepth 100000
set_option maxHeartbeats 0
namespace M
open PySem L2
section
variable {K : PySem.W.Frag} {Z H : Hp} {φ : List Addr}
theorem PkR.rep (e : Same Z H) {p : P} {v : V} (h : PkR K Z H p v) : Rep K H p v := by
  cases p with
  | non => rw [Rep]; exact h
  | bl b => rw [Rep]; exact h
  | int b => rw [Rep]; exact h
  | str b => rw [Rep]; exact h
  | tup xs => rw [Rep]; obtain ⟨a, vs, h1, h2, h3⟩ := h; exact ⟨a, vs, h1, h2, h3.mono e⟩
  | lst xs => rw [Rep]; obtain ⟨a, vs, h1, h2, h3⟩ := h; exact ⟨a, vs, h1, h2, h3.mono e⟩
  | rol xs => rw [Rep]; obtain ⟨a, vs, h1, h2, h3⟩ := h; exact ⟨a, vs, h1, h2, h3.mono e⟩
  | dct xs => rw [Rep]; obtain ⟨a, vs, h1, h2, h3⟩ := h; exact ⟨a, vs, h1, h2, RepK.mono e _ _ h3⟩
  | obj c xs => rw [Rep]; obtain ⟨a, dx, vs, h1, h2, h3⟩ := h; exact ⟨a, dx, vs, h1, h2, RepF.mono e _ _ h3⟩
  | cls c => rw [Rep]; exact h
end
section
open PySem.Spec PyProof.Rows
theorem tuple_mul1 (l : Addr) (items : Array Value) (n : Nat) (dd : Option Addr) (sl : Array (Option Value)) (u : Tok) (c0 : (decide ((1 : Int) < -(2 ^ 63)) || decide ((1 : Int) ≥ 2 ^ 63)) = false) (c1 : (items.isEmpty || (1 : Int) == 1) = true) :
    Meets (Builtin.«tuple.__mul__» ⟨[.ref l, .int 1 u], []⟩) (fun _ R s => s.heap.get? l = some { cls := .type "tuple", dict := dd, data := .seq items n, slots := sl } ∧ R (.ok (.ret (Value.ref l))) s) :=
  .of_wp fun prog w A R s h => by
    obtain ⟨hp, g, d, tk, os⟩ := s
    obtain ⟨hl, h⟩ := h
    have f1 := AutoSeq1.idx_int
    wp_walk using wpAny_loadPart' hl
    repeat (first
      | (refine wpAny_ite_false (decide_eq_false (by rw [c0]; exact Bool.false_ne_true)) ?_; wp_walk using wpAny_loadPart' hl)
      | (refine wpAny_ite_true (decide_eq_true c1) ?_; wp_walk using wpAny_loadPart' hl))
    exact ⟨_, rfl, h⟩
def rRepT1 (K : PySem.W.Frag) : R2 := fun x y H Q => ∃ l xs, x = .ref l ∧ y = .int 1 ∧ SqT K H l xs ∧ xs ≠ [] ∧ Q (.ref l) H
theorem op_repT1 {X : Cx} : OpR X (binaryOp .Mult) (rRepT1 X.K) := by
  intro pins s σ H x y v u Q I rx ry h
  obtain ⟨l, xs, rfl, rfl, hT, hne, q⟩ := h
  cases rx
  obtain ⟨t, rfl⟩ := ry
  obtain ⟨its, r, ⟨⟨cls, dd, data, sl⟩, ho, hc, n, hd⟩, hs⟩ := I.tuple hT
  simp only at hc hd
  subst hc hd
  have c0 : (decide ((1 : Int) < -(2 ^ 63)) || decide ((1 : Int) ≥ 2 ^ 63)) = false := by decide +kernel
  have c1 : (its.toArray.isEmpty || (1 : Int) == 1) = true := by simp
  refine wpAny_binaryOp_repeat_ref (T := "tuple") (U := "int") (by decide) ⟨_, ho, rfl⟩ (fun s' => typeIs_int s' 1 t) noFill_tuple_mul F.fills_int_mul F.slot_int_rmul repeat_tuple F.slot_int_index.lookup
    (call_meets F.slot_int_rmul (typeIs_int s 1 t) F.entry_int_rmul (F.args_int_rmul_2 _ _) (int_rmul_tuple 1 t l its.toArray n dd sl)
      ⟨ho, rfl, ⟨_, ho, rfl⟩, call_meets F.slot_tuple_mul ⟨_, ho, rfl⟩ F.entry_tuple_mul (F.args_tuple_mul_2 _ _) (tuple_mul1 l its.toArray n dd sl t c0 c1) ⟨ho, ?_⟩⟩)
  exact ⟨.ref l, H, I, rfl, q⟩
end
section
variable {X : Cx} {W : WX}
theorem o_mul : OpR X (binaryOp .Mult) (rM X.K W mulO) := by
  intro pins s σ H x y v u Q I rx ry ⟨d, e, Z, φ, st, rs, rd, re, af⟩
  unfold mulO at af
  split at af
  · rename_i i j h1 h2
    obtain rfl := peek_pk rs h1 rd
    obtain rfl := peek_pk rs h2 re
    split at af
    · rename_i hz
      exact op_mul pins s σ H _ _ v u Q I rx ry ⟨_, _, rfl, rfl, hz, af.here rs rep_int⟩
    · exact af.elim
  · rename_i xs k h1 h2
    obtain ⟨a, vs, rfl, ha, ra⟩ := peek_pk rs h1 rd
    obtain rfl := peek_pk rs h2 re
    split at af
    · rename_i hz
      obtain ⟨z1, rfl⟩ := hz
      exact op_repT1 pins s σ H _ _ v u Q I rx ry ⟨a, vs, rfl, rfl, ha, fun z => z1 (List.length_eq_zero_iff.mp (by rw [ra.length, z]; rfl)), af.here rs rd⟩
    split at af
    · rename_i hz
      obtain ⟨z1, z2, z3, z4⟩ := hz
      refine op_repT pins s σ H _ _ v u Q I rx ry ⟨a, k, vs, rfl, rfl, ha, fun z => z1 (List.length_eq_zero_iff.mp (by rw [ra.length, z]; rfl)), z2, z3, by rw [← ra.length]; exact z4, fun p hp => ?_⟩
      refine af.newZ rs hp fun sz => ?_
      rw [Rep]
      refine ⟨p, _, rfl, .inl (.inl upd_same), ?_⟩
      have r2 := Reps.mono sz _ _ ra
      have : ∀ n : Nat, Reps X.K (upd Z p (.tup (List.replicate k.toNat vs).flatten)) (List.replicate n xs).flatten (List.replicate n vs).flatten := fun n => by
        induction n with
        | zero => exact Reps.nil
        | succ n ih => rw [List.replicate_succ, List.replicate_succ, List.flatten_cons, List.flatten_cons]; exact r2.append ih
      exact this _
    · exact af.elim
  · exact af.elim
theorem o_eq (hu : X.A.units + 64 < cLine) : OpR X (compareOp .Eq) (rM X.K W eqO) := by
  intro pins s σ H x y v u Q I rx ry ⟨d, e, Z, φ, st, rs, rd, re, af⟩
  unfold eqO at af
  split at af
  · rename_i p q h1 h2
    split at af
    · rename_i hz
      exact op_eqD hu pins s σ H _ _ v u Q I rx ry ⟨_, _, Rep.dp _ _ (SeqAt.canLay_of_shaped hz.1) ((peek_pk rs h1 rd).rep rs.same), Rep.dp _ _ (SeqAt.canLay_of_shaped hz.2) ((peek_pk rs h2 re).rep rs.same), hz.1, hz.2, af.here rs rep_bl⟩
    · exact af.elim
  · exact af.elim
theorem o_ne (hu : X.A.units + 64 < cLine) : OpR X (compareOp .NotEq) (rM X.K W neO) := by
  intro pins s σ H x y v u Q I rx ry ⟨d, e, Z, φ, st, rs, rd, re, af⟩
  unfold neO at af
  split at af
  · rename_i p q h1 h2
    split at af
    · rename_i hz
      exact op_neD hu pins s σ H _ _ v u Q I rx ry ⟨_, _, Rep.dp _ _ (SeqAt.canLay_of_shaped hz.1) ((peek_pk rs h1 rd).rep rs.same), Rep.dp _ _ (SeqAt.canLay_of_shaped hz.2) ((peek_pk rs h2 re).rep rs.same), hz.1, hz.2, af.here rs rep_bl⟩
    · exact af.elim
  · exact af.elim
end
def allFz : List (Str × D) → Option (List (Str × P))
  | [] => some []
  | (k, .fz p) :: r => match allFz r with
    | some ps => some ((k, p) :: ps)
    | none => none
  | _ => none
theorem allFz_ok {K : PySem.W.Frag} {Z : Hp} {φ : List Addr} : ∀ {fs : List (Str × D)} {ps : List (Str × P)} {gs : List (Str × V)}, allFz fs = some ps → RepDF K Z φ fs gs → RepF K Z ps gs
  | [], ps, gs, e, r => by cases e; rw [RepF]; exact r
  | (k, .fz p) :: r, ps, gs, e, h => by
    unfold allFz at e
    split at e
    · rename_i qs e1
      cases e
      obtain ⟨v, ws, rfl, h1, h2⟩ := h
      rw [RepF]
      exact ⟨v, ws, rfl, h1, allFz_ok e1 h2⟩
    · cases e
  | (k, .cell n) :: r, ps, gs, e, h => by cases e
def toP (st : Sr) : D → Option (P × Sr)
  | .fz p => some (p, st)
  | .cell n => match st[n]? with
    | some (.lst xs) => some (.lst xs, st.set n (.frz (.lst xs)))
    | some (.dct kvs) => some (.dct kvs, st.set n (.frz (.dct kvs)))
    | some (.obj c fs) => match allFz fs with
      | some ps => some (.obj c ps, st.set n (.frz (.obj c ps)))
      | none => none
    | some (.frz p) => some (p, st)
    | _ => none
def toPs (st : Sr) : List D → Option (List P × Sr)
  | [] => some ([], st)
  | d :: ds => match toP st d with
    | some (p, st1) => match toPs st1 ds with
      | some (ps, st2) => some (p :: ps, st2)
      | none => none
    | none => none
/-- the heap stands; more of it is frozen -/
structure Frz (Z Z' H : Hp) (φ : List Addr) : Prop where
  hz : Same Z Z'
  zn : ∀ b, Z' b ≠ none → Z b ≠ none ∨ b ∈ φ
theorem Frz.step {Z Z' H : Hp} {φ : List Addr} (h : Frz Z Z' H φ) : Step Z φ H Z' φ H :=
  ⟨h.hz, ⟨[], by simp, by simp⟩, fun _ _ h _ _ => h, fun b hb => (h.zn b hb).elim .inl fun z => .inr (.inr z), fun _ h => h, fun _ _ _ h => h⟩
theorem Frz.refl {Z H : Hp} {φ : List Addr} : Frz Z Z H φ := ⟨Same.refl _, fun _ h => .inl h⟩
theorem Frz.trans {Z Z1 Z2 H : Hp} {φ : List Addr} (a : Frz Z Z1 H φ) (b : Frz Z1 Z2 H φ) : Frz Z Z2 H φ := ⟨a.hz.trans b.hz, fun c hc => (b.zn c hc).elim (a.zn c) .inr⟩
section
variable {K : PySem.W.Frag} {Z H : Hp} {φ : List Addr}
theorem RS.freeze {st : Sr} (h : RS K Z φ st H) {n : Nat} {a : Addr} {o : HO} {p : P} (e : φ[n]? = some a) (hz : Z a = none) (ho : H a = some o) (hd : Dat o) (hr : Same Z (upd Z a o) → Rep K (upd Z a o) p (.ref a)) :
    RS K (upd Z a o) φ (st.set n (.frz p)) H ∧ Frz Z (upd Z a o) H φ := by
  have sz : Same Z (upd Z a o) := fun b u hb => by rw [upd_ne (by rintro rfl; rw [hz] at hb; cases hb)]; exact hb
  refine ⟨⟨fun b u hb => ?_, by simp [h.len], h.nd, fun i b c' hi hc' => ?_, h.tb, fun b ps z => ?_⟩, ⟨sz, fun b hb => ?_⟩⟩
  · by_cases q : b = a
    · subst q; rw [upd_same] at hb; cases hb; exact ho
    · rw [upd_ne q] at hb; exact h.same b u hb
  · by_cases hin : i = n
    · subst hin
      rw [e] at hi; cases hi
      have hl : i < st.length := by rw [← h.len]; exact (List.getElem?_eq_some_iff.mp e).1
      rw [List.getElem?_set_self hl] at hc'; cases hc'
      exact ⟨hr sz, o, ho, hd⟩
    · rw [List.getElem?_set_ne (Ne.symm hin)] at hc'
      have nb : b ≠ a := by rintro rfl; exact hin (RS.write.nodup_ix' h.nd hi e)
      exact (h.cells i b c' hi hc').keep sz ⟨[], by simp⟩ (fun q => by rw [upd_ne nb]; exact (h.cells i b c' hi hc').free q) fun u hu _ => hu
  · by_cases q : b = a
    · subst q; rw [upd_same] at z; cases z; exact hd.1 (.inl ⟨ps, rfl⟩)
    · rw [upd_ne q] at z; exact h.zd b ps z
  · by_cases q : b = a
    · subst q; exact .inr (List.mem_of_getElem? e)
    · rw [upd_ne q] at hb; exact .inl hb
theorem toP_ok {st st' : Sr} (h : RS K Z φ st H) {d : D} {p : P} {v : V} (e : toP st d = some (p, st')) (r : RepD K Z φ d v) : ∃ Z', Frz Z Z' H φ ∧ RS K Z' φ st' H ∧ Rep K Z' p v := by
  cases d with
  | fz q => cases e; exact ⟨Z, .refl, h, r⟩
  | cell n =>
    obtain ⟨a, h1, rfl⟩ := r
    obtain ⟨c, hc, rc⟩ := h.at_ h1
    unfold toP at e
    simp only [hc] at e
    cases c with
    | lst xs =>
      cases e
      obtain ⟨hz, vs, h2, h3⟩ := rc
      obtain ⟨q1, q2⟩ := h.freeze (p := .lst xs) h1 hz h2 dat_lst fun sz => by rw [Rep]; exact ⟨a, vs, rfl, upd_same, h3.mono sz⟩
      exact ⟨_, q2, q1, by rw [Rep]; exact ⟨a, vs, rfl, upd_same, h3.mono q2.hz⟩⟩
    | dct kvs =>
      cases e
      obtain ⟨hz, vs, h2, h3⟩ := rc
      obtain ⟨q1, q2⟩ := h.freeze (p := .dct kvs) h1 hz h2 dat_dK fun sz => by rw [Rep]; exact ⟨a, vs, rfl, upd_same, RepK.mono sz _ _ h3⟩
      exact ⟨_, q2, q1, by rw [Rep]; exact ⟨a, vs, rfl, upd_same, RepK.mono q2.hz _ _ h3⟩⟩
    | obj c fs =>
      dsimp only at e
      split at e
      · rename_i ps e1
        cases e
        obtain ⟨hz, dx, gs, h2, h3⟩ := rc
        have h4 := allFz_ok e1 h3
        obtain ⟨q1, q2⟩ := h.freeze (p := .obj c ps) h1 hz h2 dat_ins fun sz => by rw [Rep]; exact ⟨a, dx, gs, rfl, upd_same, RepF.mono sz _ _ h4⟩
        exact ⟨_, q2, q1, by rw [Rep]; exact ⟨a, dx, gs, rfl, upd_same, RepF.mono q2.hz _ _ h4⟩⟩
      · cases e
    | lsD xs => cases e
    | tuD xs => cases e
    | ldct xs => cases e
    | frz p' => cases e; exact ⟨Z, .refl, h, rc.1⟩
theorem toPs_ok : ∀ {ds : List D} {Z : Hp} {st st' : Sr} {ps : List P} {vs : List V}, RS K Z φ st H → toPs st ds = some (ps, st') → RepDs K Z φ ds vs → ∃ Z', Frz Z Z' H φ ∧ RS K Z' φ st' H ∧ Reps K Z' ps vs
  | [], Z, st, st', ps, vs, h, e, r => by cases e; cases r; exact ⟨Z, .refl, h, .nil⟩
  | d :: ds, Z, st, st', ps, vs, h, e, r => by
    obtain ⟨v, ws, rfl, r1, r2⟩ := r
    unfold toPs at e
    split at e
    · rename_i p st1 e1
      split at e
      · rename_i qs st2 e2
        cases e
        obtain ⟨Z1, f1, rs1, q1⟩ := toP_ok h e1 r1
        obtain ⟨Z2, f2, rs2, q2⟩ := toPs_ok rs1 e2 (r2.mono f1.hz ⟨[], by simp⟩)
        exact ⟨Z2, f1.trans f2, rs2, .cons (q1.mono f2.hz) q2⟩
      · cases e
    · cases e
end
def tupO (ds : List D) (st : Sr) : R (D × Sr) := match toPs st ds with
  | some (ps, st') => if ps.length ≤ szL then .ok (.fz (.tup ps), st') else .stuck
  | none => .stuck
def lstO (ds : List D) (st : Sr) : R (D × Sr) := match toPs st ds with
  | some (ps, st') => if ps.length ≤ szL then .ok (.cell st'.length, st' ++ [.lst ps]) else .stuck
  | none => .stuck
section
variable {X : Cx} {W : WX} {es : List Expr} {pos : Pos} {fs : DA}
theorem de_tup {x1} (h : PA X es (tA X.K W fs)) : PE X (.Tuple es x1 pos) (tE X.K W (dAp tupO fs)) := by
  refine (pe_tup h).to fun σ H Q h => ?_
  obtain ⟨Z, φ, η, st, rs, sl, af⟩ := h
  refine ⟨Z, φ, η, st, rs, sl, af.bind.mono fun a Z' φ' H' t g' rs' vs r => ?_⟩
  unfold tupO at g'
  split at g'
  · rename_i ps st' e
    split at g'
    · rename_i hz
      obtain ⟨Z2, f2, rs2, q2⟩ := toPs_ok rs' e r
      refine ⟨by rw [← q2.length, ← szL_eq]; exact hz, fun p hp => ?_⟩
      exact (g'.later f2.step).newZ rs2 hp fun sz => by rw [Rep]; exact ⟨p, vs, rfl, .inl (.inl upd_same), q2.mono sz⟩
    · exact g'.elim
  · exact g'.elim
theorem de_lst (h : PA X es (tA X.K W fs)) : PE X (.List es pos) (tE X.K W (dAp lstO fs)) := by
  refine (pe_lst h).to fun σ H Q h => ?_
  obtain ⟨Z, φ, η, st, rs, sl, af⟩ := h
  refine ⟨Z, φ, η, st, rs, sl, af.bind.mono fun a Z' φ' H' t g' rs' vs r => ?_⟩
  unfold lstO at g'
  split at g'
  · rename_i ps st' e
    split at g'
    · rename_i hz
      obtain ⟨Z2, f2, rs2, q2⟩ := toPs_ok rs' e r
      refine ⟨by rw [← q2.length, ← szL_eq]; exact hz, fun p hp => ?_⟩
      exact (g'.later f2.step).lst rs2 hp q2
    · exact g'.elim
  · exact g'.elim
end
def truP : P → Option Bool
  | .non => some false
  | .bl b => some b
  | .int i => some (i != 0)
  | .str y => if y.length ≤ szL then some ((y.length : Int) != 0) else none
  | .tup xs => some (!xs.isEmpty)
  | .lst xs => some (!xs.isEmpty)
  | .rol xs => some (!xs.isEmpty)
  | .dct xs => some (!xs.isEmpty)
  | .obj _ _ => none
  | .cls _ => none
def truO (d : D) (st : Sr) : R (Bool × Sr) := match peek st d with
  | some p => match truP p with
    | some b => .ok (b, st)
    | none => .stuck
  | none => .stuck
def dTru (f : DE) : DT := fun η st => (f η st).bind fun a => truO a.1 a.2
def dAnd (f g : DT) : DT := fun η st => (f η st).bind fun a => if a.1 = true then g η a.2 else .ok (false, a.2)
def dOr (f g : DT) : DT := fun η st => (f η st).bind fun a => if a.1 = true then .ok (true, a.2) else g η a.2
def dNot (f : DT) : DT := fun η st => (f η st).bind fun a => .ok (!a.1, a.2)
section
variable {X : Cx} {W : WX} {a b e : Expr} {rest : List Expr} {pos : Pos} {f g : DE} {t u : DT}
theorem isEmpty_reps {K : PySem.W.Frag} {Z : Hp} {xs : List P} {vs : List V} (h : Reps K Z xs vs) : xs.isEmpty = vs.isEmpty := by
  cases xs with
  | nil => rw [Reps] at h; subst h; rfl
  | cons p ps => rw [Reps] at h; obtain ⟨v, ws, rfl, _⟩ := h; rfl
theorem isEmpty_repK {K : PySem.W.Frag} {Z : Hp} {xs : List (Key × P)} {vs : List (Key × V)} (h : RepK K Z xs vs) : xs.isEmpty = vs.isEmpty := by
  cases xs with
  | nil => rw [RepK] at h; subst h; rfl
  | cons p ps => obtain ⟨k, p⟩ := p; rw [RepK] at h; obtain ⟨v, ws, rfl, _⟩ := h; rfl
theorem tru_pk {K : PySem.W.Frag} {Z H : Hp} {p : P} {v : V} {k : Bool} (h : PkR K Z H p v) (e : truP p = some k) : TruV K v H k := by
  cases p with
  | non => cases h; cases e; rfl
  | bl b => cases h; cases e; rfl
  | int b => cases h; cases e; rfl
  | str b =>
    cases h
    have e' : (if b.length ≤ szL then some ((b.length : Int) != 0) else none) = some k := e
    split at e'
    · rename_i hz
      cases e'
      rw [szL_eq] at hz
      exact ⟨hz, rfl⟩
    · cases e'
  | tup xs => obtain ⟨a, vs, rfl, h2, h3⟩ := h; cases e; exact .inr (.inl ⟨vs, h2, by rw [isEmpty_reps h3]⟩)
  | lst xs => obtain ⟨a, vs, rfl, h2, h3⟩ := h; cases e; exact .inl ⟨vs, SqL.of h2, by rw [isEmpty_reps h3]⟩
  | rol xs => obtain ⟨a, vs, rfl, h2, h3⟩ := h; cases e; exact .inl ⟨vs, h2, by rw [isEmpty_reps h3]⟩
  | dct xs => obtain ⟨a, vs, rfl, h2, h3⟩ := h; cases e; exact .inr (.inr ⟨vs, h2, by rw [isEmpty_repK h3]⟩)
  | cls c => cases e
  | obj c xs => cases e
theorem dt_tru (ha : PE X a (tE X.K W f)) (he : ∀ whole, isTrue a X.env whole = (do let v ← whole; standAt a.pos; holding [v] (truthy v)) := by intro _; rfl) : PT X a (tT X.K W (dTru f)) := by
  refine (pt_truth ha he).to fun σ H Q h => ?_
  obtain ⟨Z, φ, η, st, rs, sl, af⟩ := h
  refine ⟨Z, φ, η, st, rs, sl, af.bind.mono fun a Z' φ' H' t g' rs' v r => ?_⟩
  unfold truO at g'
  split at g'
  · rename_i p e
    split at g'
    · rename_i k e2
      exact ⟨k, tru_pk (peek_pk rs' e r) e2, g'.hereT rs'⟩
    · exact g'.elim
  · exact g'.elim
theorem dt_cmp {op : CmpOp} {o : D → D → Sr → R (D × Sr)} (ho : OpR X (compareOp op) (rM X.K W o)) (ha : PE X a (tE X.K W f)) (hb : PE X b (tE X.K W g)) (hm : behindInMarks op b = false := by first | exact nomark _ | rfl) : PT X (.Compare a [op] [b] pos) (tT X.K W (dTru (dBin o f g))) := by
  have ho' : OpR X (compareOp op) (fun x y H Q => ∃ d e, ∃ Z φ st, RS X.K Z φ st H ∧ RepD X.K Z φ d x ∧ RepD X.K Z φ e y ∧ Af X.K W Z φ H (o d e st) (GE X.K Q)) := ho
  refine ⟨fun pins s σ H Q I h => ?_⟩
  refine wpAny_isTrue_Compare1 (thn (ha.run pins s σ H (fun v H1 => ∃ d, ∃ Z φ η st, RS X.K Z φ st H1 ∧ Slots X.K Z φ η σ ∧ RepD X.K Z φ d v ∧ Af X.K W Z φ H1 ((g η st).bind fun b => (o d b.1 b.2).bind fun c => truO c.1 c.2) (GT X.K Q)) I ?_) fun v s1 ⟨x, H1, I1, r1, q1⟩ => ?_) hm
  · obtain ⟨Z, φ, η, st, rs, sl, af⟩ := h
    refine ⟨Z, φ, η, st, rs, sl, ?_⟩
    have af2 : Af X.K W Z φ H ((f η st).bind fun a => (g η a.2).bind fun b => (o a.1 b.1 b.2).bind fun c => truO c.1 c.2) (GT X.K Q) := by
      have e : dTru (dBin o f g) η st = ((f η st).bind fun a => (g η a.2).bind fun b => (o a.1 b.1 b.2).bind fun c => truO c.1 c.2) := by
        unfold dTru dBin R.bind
        cases f η st with
        | ok a => dsimp only; cases g η a.2 <;> rfl
        | exc => rfl
        | stuck => rfl
      rw [← e]; exact af
    exact af2.bind.mono fun a Z' φ' H' t g' rs' v r => ⟨a.1, Z', φ', η, a.2, rs', sl.mono t, r, g'⟩
  · obtain ⟨d, Z, φ, η, st, rs, sl, rd, af⟩ := q1
    refine thn (hb.run pins s1 σ H1 (fun u H2 => ∃ e, ∃ Z φ st, RS X.K Z φ st H2 ∧ RepD X.K Z φ d x ∧ RepD X.K Z φ e u ∧ Af X.K W Z φ H2 ((o d e st).bind fun c => truO c.1 c.2) (GT X.K Q)) I1 ?_) fun u s2 ⟨y, H2, I2, r2, q2⟩ => ?_
    · exact ⟨Z, φ, η, st, rs, sl, af.bind.mono fun a Z' φ' H' t g' rs' v r => ⟨a.1, Z', φ', a.2, rs', rd.mono t.hz t.app, r, g'⟩⟩
    · obtain ⟨e, Z2, φ2, st2, rs2, rd2, re2, af2⟩ := q2
      refine thn (ho' pins s2 σ H2 x y v u (fun c H3 => ∃ k, TruV X.K c H3 k ∧ Q k H3) I2 r1 r2 ⟨d, e, Z2, φ2, st2, rs2, rd2, re2, af2.bind.mono fun a Z' φ' H' t g' rs' v r => ?_⟩) fun c s3 ⟨z, H3, I3, r3, k, tv, q3⟩ => ?_
      · unfold truO at g'
        split at g'
        · rename_i p e
          split at g'
          · rename_i k e2
            exact ⟨k, tru_pk (peek_pk rs' e r) e2, g'.hereT rs'⟩
          · exact g'.elim
        · exact g'.elim
      · exact tru_ok pins s3 σ H3 z c Q I3 r3 ⟨k, tv, q3⟩
theorem dw_and1 (ha : PT X a (tT X.K W t)) : PW X (.BoolOp .And [a] pos) (tT X.K W t) := pw_and1 ha
theorem dw_or1 (ha : PT X a (tT X.K W t)) : PW X (.BoolOp .Or [a] pos) (tT X.K W t) := pw_or1 ha
theorem dw_and (ha : PT X a (tT X.K W t)) (hb : PW X (.BoolOp .And (b :: rest) pos) (tT X.K W u)) : PW X (.BoolOp .And (a :: b :: rest) pos) (tT X.K W (dAnd t u)) := by
  refine (pw_and ha hb).to fun σ H Q h => ?_
  obtain ⟨Z, φ, η, st, rs, sl, af⟩ := h
  refine ⟨Z, φ, η, st, rs, sl, af.bind.mono fun a Z' φ' H' t g' rs' => ?_⟩
  split at g'
  · rename_i hc; rw [if_pos hc]; exact ⟨Z', φ', η, a.2, rs', sl.mono t, g'⟩
  · rename_i hc; rw [if_neg hc]; exact g'.hereT rs'
theorem dw_or (ha : PT X a (tT X.K W t)) (hb : PW X (.BoolOp .Or (b :: rest) pos) (tT X.K W u)) : PW X (.BoolOp .Or (a :: b :: rest) pos) (tT X.K W (dOr t u)) := by
  refine (pw_or ha hb).to fun σ H Q h => ?_
  obtain ⟨Z, φ, η, st, rs, sl, af⟩ := h
  refine ⟨Z, φ, η, st, rs, sl, af.bind.mono fun a Z' φ' H' t g' rs' => ?_⟩
  split at g'
  · rename_i hc; rw [if_pos hc]; exact g'.hereT rs'
  · rename_i hc; rw [if_neg hc]; exact ⟨Z', φ', η, a.2, rs', sl.mono t, g'⟩
theorem dt_not (ha : PT X a (tT X.K W t)) : PT X (.UnaryOp .Not a pos) (tT X.K W (dNot t)) := by
  refine (pt_not ha).to fun σ H Q h => ?_
  obtain ⟨Z, φ, η, st, rs, sl, af⟩ := h
  exact ⟨Z, φ, η, st, rs, sl, af.bind.mono fun a Z' φ' H' t g' rs' => g'.hereT rs'⟩
end
end M
end
section
set_option Elab.async false
set_option linter.all false
set_option maxRecDepth 100000
set_option maxHeartbeats 0
namespace M
open PySem L2
section
variable {K : PySem.W.Frag} {Z H : Hp} {φ : List Addr}
theorem RepDs.one {d : D} {vs : List V} (h : RepDs K Z φ [d] vs) : ∃ v, vs = [v] ∧ RepD K Z φ d v := by
  obtain ⟨v, ws, rfl, h1, h2⟩ := h
  cases h2
  exact ⟨v, rfl, h1⟩
theorem RepDs.two {d e : D} {vs : List V} (h : RepDs K Z φ [d, e] vs) : ∃ v w, vs = [v, w] ∧ RepD K Z φ d v ∧ RepD K Z φ e w := by
  obtain ⟨v, ws, rfl, h1, h2⟩ := h
  obtain ⟨w, rfl, h3⟩ := h2.one
  exact ⟨v, w, rfl, h1, h3⟩
theorem RepDs.zero {vs : List V} (h : RepDs K Z φ [] vs) : vs = [] := h
theorem Reps.drop : ∀ {n : Nat} {ps : List P} {vs : List V}, Reps K Z ps vs → Reps K Z (ps.drop n) (vs.drop n)
  | 0, _, _, h => h
  | n + 1, [], vs, h => by rw [Reps] at h; subst h; exact Reps.nil
  | n + 1, p :: ps, vs, h => by
    rw [Reps] at h
    obtain ⟨v, ws, rfl, _, h3⟩ := h
    simpa using Reps.drop (n := n) h3
theorem Reps.take : ∀ {n : Nat} {ps : List P} {vs : List V}, Reps K Z ps vs → Reps K Z (ps.take n) (vs.take n)
  | 0, _, _, h => by simpa using Reps.nil
  | n + 1, [], vs, h => by rw [Reps] at h; subst h; exact Reps.nil
  | n + 1, p :: ps, vs, h => by
    rw [Reps] at h
    obtain ⟨v, ws, rfl, h2, h3⟩ := h
    exact Reps.cons h2 (Reps.take (n := n) h3)
theorem Reps.reverse : ∀ {ps : List P} {vs : List V}, Reps K Z ps vs → Reps K Z ps.reverse vs.reverse
  | [], vs, h => by rw [Reps] at h; subst h; exact Reps.nil
  | p :: ps, vs, h => by
    rw [Reps] at h
    obtain ⟨v, ws, rfl, h2, h3⟩ := h
    rw [List.reverse_cons, List.reverse_cons]
    exact h3.reverse.append (.one h2)
theorem Reps.dropLast {ps : List P} {vs : List V} (h : Reps K Z ps vs) : Reps K Z ps.dropLast vs.dropLast := by
  rw [List.dropLast_eq_take, List.dropLast_eq_take, h.length]
  exact h.take
theorem Reps.atI {ps : List P} {vs : List V} {i : Int} {p : P} (h : Reps K Z ps vs) (e : L2.atI ps i = some p) : ∃ v, L2.atI vs i = some v ∧ Rep K Z p v := by
  unfold L2.atI at e ⊢
  rw [← h.length]
  cases q : ixN ps.length i with
  | none => rw [q] at e; cases e
  | some j => rw [q] at e; exact h.get e
end
def lenP : P → Option Int
  | .tup xs => some xs.length
  | .lst xs => some xs.length
  | .rol xs => some xs.length
  | .dct xs => some xs.length
  | .str s => if s.length ≤ szL then some s.length else none
  | _ => none
def lenO (ds : List D) (st : Sr) : R (D × Sr) := match ds with
  | [d] => match peek st d with
    | some p => match lenP p with
      | some n => .ok (.fz (.int n), st)
      | none => .stuck
    | none => .stuck
  | _ => .stuck
def absO (ds : List D) (st : Sr) : R (D × Sr) := match ds with
  | [.fz (.int i)] => .ok (.fz (.int (if i < 0 then -i else i)), st)
  | _ => .stuck
def int1O (ds : List D) (st : Sr) : R (D × Sr) := match ds with
  | [.fz (.int i)] => .ok (.fz (.int i), st)
  | [.fz (.bl b)] => .ok (.fz (.int (if b then 1 else 0)), st)
  | _ => .stuck
def itemsP : P → Option (List P)
  | .tup xs => some xs
  | .lst xs => some xs
  | .rol xs => some xs
  | _ => none
def listO (ds : List D) (st : Sr) : R (D × Sr) := match ds with
  | [d] => match (peek st d).bind itemsP with
    | some xs => .ok (.cell st.length, st ++ [.lst xs])
    | none => .stuck
  | _ => .stuck
def tupleO (ds : List D) (st : Sr) : R (D × Sr) := match ds with
  | [d] => match (peek st d).bind itemsP with
    | some xs => .ok (.fz (.tup xs), st)
    | none => .stuck
  | _ => .stuck
section
variable {X : Cx} {W : WX}
theorem pk_items {K : PySem.W.Frag} {Z H : Hp} {p : P} {v : V} {xs : List P} (h : PkR K Z H p v) (e : itemsP p = some xs) : ∃ a vs, v = .ref a ∧ (SqL K H a vs ∨ SqT K H a vs) ∧ Reps K Z xs vs := by
  cases p with
  | tup ys => cases e; obtain ⟨a, vs, h1, h2, h3⟩ := h; exact ⟨a, vs, h1, .inr h2, h3⟩
  | lst ys => cases e; obtain ⟨a, vs, h1, h2, h3⟩ := h; exact ⟨a, vs, h1, .inl (SqL.of h2), h3⟩
  | rol ys => cases e; obtain ⟨a, vs, h1, h2, h3⟩ := h; exact ⟨a, vs, h1, .inl h2, h3⟩
  | _ => cases e
theorem RepK.length {K : PySem.W.Frag} {Z : Hp} : ∀ {xs : List (Key × P)} {vs : List (Key × V)}, RepK K Z xs vs → xs.length = vs.length
  | [], vs, h => by rw [RepK] at h; subst h; rfl
  | (k, p) :: ps, vs, h => by
    rw [RepK] at h; obtain ⟨v, ws, rfl, _, h3⟩ := h
    simp [RepK.length h3]
theorem c_len : CallR X (.builtin "len") (rMA X.K W lenO) := by
  intro pins s σ H xs us Q I r ⟨ds, Z, φ, st, rs, rdd, af⟩
  unfold lenO at af
  split at af
  · obtain ⟨v, rfl, rd⟩ := rdd.one
    split at af
    · rename_i p e
      have pk := peek_pk rs e rd
      split at af
      · rename_i n en
        cases p with
        | tup ys => cases en; obtain ⟨a, vs, rfl, h2, h3⟩ := pk; rw [h3.length] at af; exact call_len pins s σ H _ us Q I r ⟨_, vs.length, rfl, .inr ⟨vs, h2, rfl⟩, af.here rs rep_int⟩
        | lst ys => cases en; obtain ⟨a, vs, rfl, h2, h3⟩ := pk; rw [h3.length] at af; exact call_len pins s σ H _ us Q I r ⟨_, vs.length, rfl, .inl ⟨vs, SqL.of h2, rfl⟩, af.here rs rep_int⟩
        | rol ys => cases en; obtain ⟨a, vs, rfl, h2, h3⟩ := pk; rw [h3.length] at af; exact call_len pins s σ H _ us Q I r ⟨_, vs.length, rfl, .inl ⟨vs, h2, rfl⟩, af.here rs rep_int⟩
        | dct ys => cases en; obtain ⟨a, vs, rfl, h2, h3⟩ := pk; rw [h3.length] at af; exact call_lenD pins s σ H _ us Q I r ⟨a, vs, rfl, h2, af.here rs rep_int⟩
        | str y =>
          obtain rfl := pk
          have en' : (if y.length ≤ szL then some ((y.length : Int)) else none) = some n := en
          split at en'
          · rename_i hz
            cases en'
            exact call_len pins s σ H _ us Q I r ⟨_, y.length, rfl, ⟨by rw [← szL_eq]; exact hz, rfl⟩, af.here rs rep_int⟩
          · cases en'
        | _ => cases en
      · exact af.elim
    · exact af.elim
  · exact af.elim
theorem c_abs : CallR X (.builtin "abs") (rMA X.K W absO) := by
  intro pins s σ H xs us Q I r ⟨ds, Z, φ, st, rs, rdd, af⟩
  unfold absO at af
  split at af
  · obtain ⟨v, rfl, rd⟩ := rdd.one
    obtain rfl := fz_int rd
    exact call_abs pins s σ H _ us Q I r ⟨_, rfl, af.here rs rep_int⟩
  · exact af.elim
theorem fz_bl {K : PySem.W.Frag} {Z : Hp} {φ : List Addr} {i : Bool} {v : V} (h : RepD K Z φ (.fz (.bl i)) v) : v = .bl i := by
  have h' : Rep K Z (.bl i) v := h
  rw [Rep] at h'; exact h'
theorem c_int1 : CallR X (.type "int") (rMA X.K W int1O) := by
  intro pins s σ H xs us Q I r ⟨ds, Z, φ, st, rs, rdd, af⟩
  unfold int1O at af
  split at af
  · obtain ⟨v, rfl, rd⟩ := rdd.one
    obtain rfl := fz_int rd
    exact call_int1 pins s σ H _ us Q I r (.inl ⟨_, rfl, af.here rs rep_int⟩)
  · obtain ⟨v, rfl, rd⟩ := rdd.one
    obtain rfl := fz_bl rd
    exact call_int1 pins s σ H _ us Q I r (.inr ⟨_, rfl, af.here rs rep_int⟩)
  · exact af.elim
theorem c_list : CallR X (.type "list") (rMA X.K W listO) := by
  intro pins s σ H xs us Q I r ⟨ds, Z, φ, st, rs, rdd, af⟩
  unfold listO at af
  split at af
  · obtain ⟨v, rfl, rd⟩ := rdd.one
    split at af
    · rename_i ys e
      obtain ⟨p, e1, e2⟩ := Option.bind_eq_some_iff.mp e
      obtain ⟨a, vs, rfl, h2, h3⟩ := pk_items (peek_pk rs e1 rd) e2
      exact call_list_of pins s σ H _ us Q I r ⟨a, vs, rfl, h2, fun l hl => af.lst rs hl h3⟩
    · exact af.elim
  · exact af.elim
theorem c_tuple : CallR X (.type "tuple") (rMA X.K W tupleO) := by
  intro pins s σ H xs us Q I r ⟨ds, Z, φ, st, rs, rdd, af⟩
  unfold tupleO at af
  split at af
  · obtain ⟨v, rfl, rd⟩ := rdd.one
    split at af
    · rename_i ys e
      obtain ⟨p, e1, e2⟩ := Option.bind_eq_some_iff.mp e
      have pk := peek_pk rs e1 rd
      cases p with
      | tup zs =>
        cases e2
        obtain ⟨a, vs, rfl, h2, h3⟩ := pk
        exact call_tuple_of pins s σ H _ us Q I r ⟨a, vs, rfl, .inr ⟨h2, af.here rs (o_add.peek_rep' rs e1 rd)⟩⟩
      | lst zs =>
        cases e2
        obtain ⟨a, vs, rfl, h2, h3⟩ := pk
        exact call_tuple_of pins s σ H _ us Q I r ⟨a, vs, rfl, .inl ⟨SqL.of h2, fun l hl => af.newZ rs hl fun sz => by rw [Rep]; exact ⟨l, vs, rfl, .inl (.inl upd_same), h3.mono sz⟩⟩⟩
      | rol zs =>
        cases e2
        obtain ⟨a, vs, rfl, h2, h3⟩ := pk
        exact call_tuple_of pins s σ H _ us Q I r ⟨a, vs, rfl, .inl ⟨h2, fun l hl => af.newZ rs hl fun sz => by rw [Rep]; exact ⟨l, vs, rfl, .inl (.inl upd_same), h3.mono sz⟩⟩⟩
      | _ => cases e2
    · exact af.elim
  · exact af.elim
end
def ixO (d e : D) (st : Sr) : R (D × Sr) := match peek st d, e with
  | some p, .fz (.int i) => match (itemsP p).bind fun xs => atI xs i with
    | some q => .ok (.fz q, st)
    | none => .stuck
  | _, _ => .stuck
/-- a slice's part -/
abbrev DO := Et → Sr → R (Option Int × Sr)
def dNoPart : DO := fun _ st => .ok (none, st)
def dPart (f : DE) : DO := fun η st => (f η st).bind fun a => match a.1 with
  | .fz (.int i) => .ok (some i, a.2)
  | _ => .stuck
def cutP (xs : List P) (lo hi : Option Int) : List P := (xs.drop (HT.sIx xs.length 0 lo)).take (HT.sIx xs.length xs.length hi - HT.sIx xs.length 0 lo)
def slO (d : D) (lo hi : Option Int) (st : Sr) : R (D × Sr) := match peek st d with
  | some (.tup xs) => .ok (.fz (.tup (cutP xs lo hi)), st)
  | some (.lst xs) => .ok (.cell st.length, st ++ [.lst (cutP xs lo hi)])
  | some (.rol xs) => .ok (.cell st.length, st ++ [.lst (cutP xs lo hi)])
  | _ => .stuck
def dSl (f : DE) (l u : DO) : DE := fun η st => (f η st).bind fun a => (l η a.2).bind fun b => (u η b.2).bind fun c => slO a.1 b.1 c.1 c.2
section
variable {X : Cx} {W : WX} {a b e : Expr} {pos p2 : Pos} {f g : DE}
theorem i_ix : IxR X (rM X.K W ixO) := by
  intro value slice pins s σ H x y v u Q I rx ry ⟨d, e, Z, φ, st, rs, rd, re, af⟩ hs
  unfold ixO at af
  split at af
  · rename_i p i e1
    obtain rfl := fz_int re
    split at af
    · rename_i q e2
      obtain ⟨xs, e3, e4⟩ := Option.bind_eq_some_iff.mp e2
      obtain ⟨a, vs, rfl, h2, h3⟩ := pk_items (peek_pk rs e1 rd) e3
      obtain ⟨w, hw, rw'⟩ := h3.atI e4
      have qq := af.here rs (show RepD X.K Z φ (.fz q) w from rw')
      rcases h2 with h2 | h2
      · exact ix_list value slice pins s σ H _ _ v u Q I rx ry ⟨a, vs, i, w, rfl, rfl, h2, hw, qq⟩ hs
      · exact ix_tup value slice pins s σ H _ _ v u Q I rx ry ⟨a, vs, i, w, rfl, rfl, h2, hw, qq⟩ hs
    · exact af.elim
  · exact af.elim
theorem de_ix {o : D → D → Sr → R (D × Sr)} (hr : IxR X (rM X.K W o)) (ha : PE X a (tE X.K W f)) (hb : PE X b (tE X.K W g)) (hs : PlainIx b := by exact fun _ _ => rfl) : PE X (.Subscript a b pos) (tE X.K W (dBin o f g)) := by
  refine (pe_ix hr ha hb hs).to fun σ H Q h => ?_
  obtain ⟨Z, φ, η, st, rs, sl, af⟩ := h
  refine ⟨Z, φ, η, st, rs, sl, af.bind.mono fun a Z' φ' H' t g' rs' v r => ?_⟩
  refine ⟨Z', φ', η, a.2, rs', sl.mono t, g'.bind.mono fun b Z2 φ2 H2 t2 g2 rs2 u r2 => ?_⟩
  exact ⟨a.1, b.1, Z2, φ2, b.2, rs2, r.mono t2.hz t2.app, r2, g2⟩
def GO (K : PySem.W.Frag) (Q : Option Int → Hp → Prop) : (Option Int × Sr) → Hp → List Addr → Hp → Prop := fun r Z' φ' H' => RS K Z' φ' r.2 H' → Q r.1 H'
def tO (K : PySem.W.Frag) (W : WX) (f : DO) : TO := fun σ H Q => Rd4 K W f σ H (GO K Q)
theorem do_none : PO X none (tO X.K W dNoPart) := ⟨fun pins s σ H Q I ⟨Z, φ, η, st, rs, sl, af⟩ => po_none.run pins s σ H Q I (af _ _ _ .refl rs)⟩
theorem do_some (h : PE X e (tE X.K W f)) : PO X (some e) (tO X.K W (dPart f)) := by
  refine ⟨fun pins s σ H Q I ⟨Z, φ, η, st, rs, sl, af⟩ => (po_some h).run pins s σ H Q I ⟨Z, φ, η, st, rs, sl, af.bind.mono fun a Z' φ' H' t g' rs' v r => ?_⟩⟩
  split at g'
  · rename_i i e
    rw [e] at r
    exact ⟨i, fz_int r, g' _ _ _ .refl rs'⟩
  · exact g'.elim
theorem s_sl : SlR X (fun x lo hi H Q => ∃ d, ∃ Z φ st, RS X.K Z φ st H ∧ RepD X.K Z φ d x ∧ Af X.K W Z φ H (slO d lo hi st) (GE X.K Q)) := by
  intro pins s σ H x v vl vu lo hi sl Q I rx hs pl pu ⟨d, Z, φ, st, rs, rd, af⟩
  unfold slO at af
  have cut : ∀ {Z' : Hp} {xs : List P} {vs : List V}, Reps X.K Z' xs vs → Reps X.K Z' (cutP xs lo hi) (cutV vs lo hi) := fun {Z' xs vs} h => by
    unfold cutP cutV
    rw [h.length]
    exact h.drop.take
  split at af
  · rename_i xs e
    obtain ⟨a, vs, rfl, h2, h3⟩ := peek_pk rs e rd
    refine sl_tupA pins s σ H _ v vl vu lo hi sl Q I rx hs pl pu ⟨a, vs, rfl, h2, fun hw => ?_, fun _ p hp => ?_⟩
    · have ec : cutP xs lo hi = xs := by
        unfold cutP
        rw [h3.length, hw.1, hw.2, ← h3.length]
        simp
      rw [ec] at af
      exact af.here rs (o_add.peek_rep' rs e rd)
    · exact af.newZ rs hp fun sz => by rw [Rep]; exact ⟨p, _, rfl, .inl (.inl upd_same), (cut h3).mono sz⟩
  · rename_i xs e
    obtain ⟨a, vs, rfl, h2, h3⟩ := peek_pk rs e rd
    exact sl_list pins s σ H _ v vl vu lo hi sl Q I rx hs pl pu ⟨a, vs, rfl, SqL.of h2, fun p hp => af.lst rs hp (cut h3)⟩
  · rename_i xs e
    obtain ⟨a, vs, rfl, h2, h3⟩ := peek_pk rs e rd
    exact sl_list pins s σ H _ v vl vu lo hi sl Q I rx hs pl pu ⟨a, vs, rfl, h2, fun p hp => af.lst rs hp (cut h3)⟩
  · exact af.elim
theorem de_sl {lo hi : Option Expr} {l u : DO} (ha : PE X a (tE X.K W f)) (hl : PO X lo (tO X.K W l)) (hu : PO X hi (tO X.K W u)) : PE X (.Subscript a (.Slice lo hi none p2) pos) (tE X.K W (dSl f l u)) := by
  refine (pe_slice (s_sl (W := W)) ha hl hu).to fun σ H Q h => ?_
  obtain ⟨Z, φ, η, st, rs, sl, af⟩ := h
  refine ⟨Z, φ, η, st, rs, sl, af.bind.mono fun a Z' φ' H' t g' rs' v r => ?_⟩
  refine ⟨Z', φ', η, a.2, rs', sl.mono t, g'.bind.mono fun b Z2 φ2 H2 t2 g2 rs2 => ?_⟩
  refine ⟨Z2, φ2, η, b.2, rs2, (sl.mono t).mono t2, g2.bind.mono fun c Z3 φ3 H3 t3 g3 rs3 => ?_⟩
  exact ⟨a.1, Z3, φ3, c.2, rs3, (r.mono t2.hz t2.app).mono t3.hz t3.app, g3⟩
end
def isLst (st : Sr) (d : D) : Bool := match peek st d with
  | some (.lst _) => true
  | _ => false
def dBM (ty : Sr → D → Bool) (o : D → List D → Sr → R (D × Sr)) (f : DE) (g : DA) : DE := fun η st => (f η st).bind fun a => if ty a.2 a.1 = true then (g η a.2).bind fun b => o a.1 b.1 b.2 else .stuck
def appendO (d : D) (ds : List D) (st : Sr) : R (D × Sr) := match ds with
  | [e] => match toP st e with
    | some (p, st') => match d with
      | .cell n => match st'[n]? with
        | some (.lst xs) => if xs.length < szL then .ok (.fz .non, st'.set n (.lst (xs ++ [p]))) else .stuck
        | _ => .stuck
      | _ => .stuck
    | none => .stuck
  | _ => .stuck
def popO (d : D) (ds : List D) (st : Sr) : R (D × Sr) := match ds, d with
  | [], .cell n => match st[n]? with
    | some (.lst xs) => match xs[xs.length - 1]? with
      | some p => .ok (.fz p, st.set n (.lst xs.dropLast))
      | none => .stuck
    | _ => .stuck
  | [.fz (.int i)], .cell n => match st[n]? with
    | some (.lst xs) => match seqIndex? i xs.length with
      | some k => match xs[k]? with
        | some p => if -(2 ^ 63) ≤ i ∧ i < 2 ^ 63 then .ok (.fz p, st.set n (.lst (xs.eraseIdx k))) else .stuck
        | none => .stuck
      | none => .stuck
    | _ => .stuck
  | _, _ => .stuck
def reverseO (d : D) (ds : List D) (st : Sr) : R (D × Sr) := match ds, d with
  | [], .cell n => match st[n]? with
    | some (.lst xs) => .ok (.fz .non, st.set n (.lst xs.reverse))
    | _ => .stuck
  | _, _ => .stuck
section
variable {X : Cx} {W : WX} {o e : Expr} {es : List Expr} {f : DE} {fs : DA} {name : Str} {apos cpos : Pos} {T id : String} {ty : Sr → D → Bool} {op : D → List D → Sr → R (D × Sr)}
theorem isLst_ty {K : PySem.W.Frag} {Z H : Hp} {φ : List Addr} {st : Sr} {d : D} {v : V} (rs : RS K Z φ st H) (r : RepD K Z φ d v) (h : isLst st d = true) : tyV K "list" v H := by
  unfold isLst at h
  split at h
  · rename_i xs e
    obtain ⟨a, vs, rfl, h2, _⟩ := peek_pk rs e r
    exact .inl ⟨rfl, vs, SqL.of h2⟩
  · cases h
theorem de_bm0 (hty' : ∀ {Z H : Hp} {φ : List Addr} {st : Sr} {d : D} {v : V}, RS X.K Z φ st H → RepD X.K Z φ d v → ty st d = true → tyV X.K T v H) (pa : PlainAttrs T) (slot : Slot T name id) (hty : typeOf (.builtin id) = pure (.type "method_descriptor")) (hm : MtR X id (rMM X.K W op)) (ho : PE X o (tE X.K W f))
    (hbase : attributeBase o name X.env (eval o X.env) = eval o X.env := by rfl) (hline : (apos.endLine == cpos.line) = true := by rfl) : PE X (.Call (.Attribute o name apos) [] [] cpos) (tE X.K W (dBM ty op f dNil)) := by
  refine (pe_bm0 pa slot hty hm ho hbase hline).to fun σ H Q h => ?_
  obtain ⟨Z, φ, η, st, rs, sl, af⟩ := h
  refine ⟨Z, φ, η, st, rs, sl, af.bind.mono fun a Z' φ' H' t g' rs' v r => ?_⟩
  split at g'
  · rename_i hc
    exact ⟨hty' rs' r hc, a.1, [], Z', φ', a.2, rs', r, rfl, g'⟩
  · exact g'.elim
theorem de_bm (hty' : ∀ {Z H : Hp} {φ : List Addr} {st : Sr} {d : D} {v : V}, RS X.K Z φ st H → RepD X.K Z φ d v → ty st d = true → tyV X.K T v H) (pa : PlainAttrs T) (slot : Slot T name id) (hty : typeOf (.builtin id) = pure (.type "method_descriptor")) (hm : MtR X id (rMM X.K W op)) (ho : PE X o (tE X.K W f)) (ha : PA X (e :: es) (tA X.K W fs))
    (hbase : attributeBase o name X.env (eval o X.env) = eval o X.env := by rfl)
    (hfew : ((backTo cpos (starEach (e :: es) X.env)).all (fun x => !x.1) && (backToKw cpos (keywordEach [] X.env)).all (fun x => x.1.isSome)
      && decide ((e :: es).length + ([] : List Keyword).length + (if ([] : List Keyword).isEmpty then 0 else 1) < 30)) = true := by rfl)
    (hline : (apos.endLine == cpos.line) = true := by rfl) (hs : starEach (e :: es) X.env = (false, eval e X.env) :: starEach es X.env := by rfl) (hplain : (backTo cpos (starEach es X.env)).any (·.1) = false := by rfl) :
    PE X (.Call (.Attribute o name apos) (e :: es) [] cpos) (tE X.K W (dBM ty op f fs)) := by
  refine (pe_bm pa slot hty hm ho ha hbase hfew hline hs hplain).to fun σ H Q h => ?_
  obtain ⟨Z, φ, η, st, rs, sl, af⟩ := h
  refine ⟨Z, φ, η, st, rs, sl, af.bind.mono fun a Z' φ' H' t g' rs' v r => ?_⟩
  split at g'
  · rename_i hc
    refine ⟨hty' rs' r hc, Z', φ', η, a.2, rs', sl.mono t, g'.bind.mono fun b Z2 φ2 H2 t2 g2 rs2 vs r2 => ?_⟩
    exact ⟨a.1, b.1, Z2, φ2, b.2, rs2, r.mono t2.hz t2.app, r2, g2⟩
  · exact g'.elim
theorem m_append : MtR X "list.append" (rMM X.K W appendO) := by
  intro pins s σ H x xs v us Q I rx rv ⟨d, ds, Z, φ, st, rs, rd, rds, af⟩
  unfold appendO at af
  split at af
  · obtain ⟨w, rfl, re⟩ := rds.one
    split at af
    · rename_i p st' e1
      split at af
      · rename_i n
        obtain ⟨a, ha, rfl⟩ := rd
        split at af
        · rename_i ys e2
          split at af
          · rename_i hz
            obtain ⟨Z2, f2, rs2, q2⟩ := toP_ok rs e1 re
            obtain ⟨hz2, vs, h3, h4⟩ := rs2.cells n a _ ha e2
            refine mt_append pins s σ H _ _ v us Q I rx rv ⟨a, vs, w, rfl, rfl, h3, by rw [← h4.length, ← szL_eq]; exact hz, ?_⟩
            obtain ⟨rs3, s3⟩ := rs2.write (c := .lst (ys ++ [p])) (o := .lst (vs ++ [w])) ha hz2 ⟨hz2, _, upd_same, h4.append (.one q2)⟩ (fun _ _ z => by rw [h3] at z; cases z)
            exact af _ _ _ (f2.step.trans s3) rs3 _ rep_non
          · exact af.elim
        · exact af.elim
      · exact af.elim
    · exact af.elim
  · exact af.elim
theorem m_pop : MtR X "list.pop" (rMM X.K W popO) := by
  intro pins s σ H x xs v us Q I rx rv ⟨d, ds, Z, φ, st, rs, rd, rds, af⟩
  unfold popO at af
  split at af
  · rename_i n
    obtain rfl := rds.zero
    obtain ⟨a, ha, rfl⟩ := rd
    split at af
    · rename_i ys e2
      split at af
      · rename_i p e3
        obtain ⟨hz2, vs, h3, h4⟩ := rs.cells n a _ ha e2
        obtain ⟨w, hw, rw'⟩ := h4.get e3
        refine mt_pop pins s σ H _ _ v us Q I rx rv ⟨a, vs, w, rfl, rfl, h3, by rw [← h4.length]; exact hw, ?_⟩
        obtain ⟨rs3, s3⟩ := rs.write (c := .lst ys.dropLast) (o := .lst vs.dropLast) ha hz2 ⟨hz2, _, upd_same, h4.dropLast⟩ (fun _ _ z => by rw [h3] at z; cases z)
        exact af _ _ _ s3 rs3 _ rw'
      · exact af.elim
    · exact af.elim
  · rename_i i n
    obtain ⟨w0, rfl, re⟩ := rds.one
    obtain rfl := fz_int re
    obtain ⟨a, ha, rfl⟩ := rd
    split at af
    · rename_i ys e2
      split at af
      · rename_i k e3
        split at af
        · rename_i p e4
          split at af
          · rename_i hb
            obtain ⟨hz2, vs, h3, h4⟩ := rs.cells n a _ ha e2
            obtain ⟨w, hw, rw'⟩ := h4.get e4
            refine mt_popAt pins s σ H _ _ v us Q I rx rv ⟨a, vs, i, k, w, rfl, rfl, h3, hb.1, hb.2, by rw [← h4.length]; exact e3, hw, ?_⟩
            obtain ⟨rs3, s3⟩ := rs.write (c := .lst (ys.eraseIdx k)) (o := .lst (vs.eraseIdx k)) ha hz2 ⟨hz2, _, upd_same, by rw [List.eraseIdx_eq_take_drop_succ, List.eraseIdx_eq_take_drop_succ]; exact h4.take.append h4.drop⟩ (fun _ _ z => by rw [h3] at z; cases z)
            exact af _ _ _ s3 rs3 _ rw'
          · exact af.elim
        · exact af.elim
      · exact af.elim
    · exact af.elim
  · exact af.elim
theorem m_reverse : MtR X "list.reverse" (rMM X.K W reverseO) := by
  intro pins s σ H x xs v us Q I rx rv ⟨d, ds, Z, φ, st, rs, rd, rds, af⟩
  unfold reverseO at af
  split at af
  · rename_i n
    obtain rfl := rds.zero
    obtain ⟨a, ha, rfl⟩ := rd
    split at af
    · rename_i ys e2
      obtain ⟨hz2, vs, h3, h4⟩ := rs.cells n a _ ha e2
      refine mt_reverse pins s σ H _ _ v us Q I rx rv ⟨a, vs, rfl, rfl, h3, ?_⟩
      obtain ⟨rs3, s3⟩ := rs.write (c := .lst ys.reverse) (o := .lst vs.reverse) ha hz2 ⟨hz2, _, upd_same, h4.reverse⟩ (fun _ _ z => by rw [h3] at z; cases z)
      exact af _ _ _ s3 rs3 _ rep_non
    · exact af.elim
  · exact af.elim
theorem de_append (ho : PE X o (tE X.K W f)) (ha : PA X [e] (tA X.K W fs)) (hbase : attributeBase o "append" X.env (eval o X.env) = eval o X.env := by rfl)
    (hfew : ((backTo cpos (starEach (e :: []) X.env)).all (fun x => !x.1) && (backToKw cpos (keywordEach [] X.env)).all (fun x => x.1.isSome)
      && decide ((e :: ([] : List Expr)).length + ([] : List Keyword).length + (if ([] : List Keyword).isEmpty then 0 else 1) < 30)) = true := by rfl)
    (hline : (apos.endLine == cpos.line) = true := by rfl) (hs : starEach (e :: []) X.env = (false, eval e X.env) :: starEach [] X.env := by rfl) (hplain : (backTo cpos (starEach [] X.env)).any (·.1) = false := by rfl) :
    PE X (.Call (.Attribute o "append" apos) [e] [] cpos) (tE X.K W (dBM isLst appendO f fs)) := de_bm isLst_ty PySem.F.plainAttrs_list PySem.F.slot_list_append PySem.F.type_list_append m_append ho ha hbase hfew hline hs hplain
theorem de_pop0 (ho : PE X o (tE X.K W f)) (hbase : attributeBase o "pop" X.env (eval o X.env) = eval o X.env := by rfl) (hline : (apos.endLine == cpos.line) = true := by rfl) :
    PE X (.Call (.Attribute o "pop" apos) [] [] cpos) (tE X.K W (dBM isLst popO f dNil)) := de_bm0 isLst_ty PySem.F.plainAttrs_list PySem.F.slot_list_pop PySem.F.type_list_pop m_pop ho hbase hline
theorem de_reverse (ho : PE X o (tE X.K W f)) (hbase : attributeBase o "reverse" X.env (eval o X.env) = eval o X.env := by rfl) (hline : (apos.endLine == cpos.line) = true := by rfl) :
    PE X (.Call (.Attribute o "reverse" apos) [] [] cpos) (tE X.K W (dBM isLst reverseO f dNil)) := de_bm0 isLst_ty PySem.F.plainAttrs_list PySem.F.slot_list_reverse PySem.F.type_list_reverse m_reverse ho hbase hline
end
end M
end
section
set_option Elab.async false
set_option linter.all false
set_option maxRecDepth 100000
set_option maxHeartbeats 0
namespace M
open PySem L2
def dSkip : DS := fun η st => .ok (.nx, η, st)
def dSeq (f g : DS) : DS := fun η st => (f η st).bind fun r => match r.1 with
  | .nx => g r.2.1 r.2.2
  | .rt d => .ok (.rt d, r.2.1, r.2.2)
  | .bk => .ok (.bk, r.2.1, r.2.2)
  | .ct => .ok (.ct, r.2.1, r.2.2)
def dEx (f : DE) : DS := fun η st => (f η st).bind fun a => .ok (.nx, η, a.2)
def dRet (f : DE) : DS := fun η st => (f η st).bind fun a => .ok (.rt a.1, η, a.2)
def dBrk : DS := fun η st => .ok (.bk, η, st)
def dIf (t : DT) (f g : DS) : DS := fun η st => (t η st).bind fun a => if a.1 = true then f η a.2 else g η a.2
/-- targets -/
abbrev DG := D → Et → Sr → Option Et
def gNm (i : Nat) : DG := fun d η _ => some (η.set i (some d))
def bindAll : List DG → List P → Et → Sr → Option Et
  | [], [], η, _ => some η
  | g :: gs, p :: ps, η, st => (g (.fz p) η st).bind fun η1 => bindAll gs ps η1 st
  | _, _, _, _ => none
def gTp (gs : List DG) : DG := fun d η st => match peek st d with
  | some (.tup ps) => bindAll gs ps η st
  | _ => none
def dAsg (f : DE) (g : DG) : DS := fun η st => (f η st).bind fun a => match g a.1 η a.2 with
  | some η1 => .ok (.nx, η1, a.2)
  | none => .stuck
def tG (K : PySem.W.Frag) (g : DG) : TG := fun v σ H Q => ∃ Z φ η st d, RS K Z φ st H ∧ Slots K Z φ η σ ∧ RepD K Z φ d v ∧ ∃ η', g d η st = some η' ∧ ∀ σ', Slots K Z φ η' σ' → Q σ' H
def tGs (K : PySem.W.Frag) (gs : List DG) : TGs := fun vs σ H Q => ∃ Z φ η st ps, RS K Z φ st H ∧ Slots K Z φ η σ ∧ Reps K Z ps vs ∧ ∃ η', bindAll gs ps η st = some η' ∧ ∀ σ', Slots K Z φ η' σ' → Q σ' H
section
variable {X : Cx} {W : WX} {a e : Expr} {es : List Expr} {st : Stmt} {rest b c : List Stmt} {pos : Pos} {f : DE} {t : DT} {g h : DS}
theorem _root_.L2.PG.to {e : Expr} {t t' : TG} (h : PG X e t) (i : ∀ v σ H Q, t' v σ H Q → t v σ H Q) : PG X e t' := ⟨fun pins s σ H v u Q I r q => h.run pins s σ H v u Q I r (i v σ H Q q)⟩
theorem _root_.L2.PGs.to {e : List Expr} {t t' : TGs} (h : PGs X e t) (i : ∀ v σ H Q, t' v σ H Q → t v σ H Q) : PGs X e t' := ⟨fun pins s σ H v u Q I r q => h.run pins s σ H v u Q I r (i v σ H Q q)⟩
theorem dg_name {i : Nat} {x : Str} (hN : X.N.Nodup) (hi : X.N[i]? = some x := by rfl) (hx : Loc X.env.scope x := by first | exact Or.inl rfl | exact Or.inr rfl) (hf : X.fn x = true ∨ X.env.scope.names.lookup x = some .local := by first | exact .inl rfl | exact .inr rfl | assumption) : PG X (.Name x pos) (tG X.K (gNm i)) := by
  refine (pg_name (i := i) hN hi hx hf).to fun v σ H Q h => ?_
  obtain ⟨Z, φ, η, st, d, rs, sl, r, η', e, q⟩ := h
  cases e
  exact q _ (sl.set r)
theorem dgs_nil : PGs X [] (tGs X.K []) := by
  refine pgs_nil.to fun v σ H Q h => ?_
  obtain ⟨Z, φ, η, st, ps, rs, sl, r, η', e, q⟩ := h
  cases ps with
  | nil => cases e; rw [Reps] at r; exact ⟨r, q _ sl⟩
  | cons p ps => cases e
theorem dgs_cons {g : DG} {gs : List DG} (h1 : PG X e (tG X.K g)) (h2 : PGs X es (tGs X.K gs)) (hs : (assignEach (e :: es) X.env).map (·.2) = assign e X.env :: (assignEach es X.env).map (·.2) := by rfl) : PGs X (e :: es) (tGs X.K (g :: gs)) := by
  refine (pgs_cons h1 h2 hs).to fun v σ H Q h => ?_
  obtain ⟨Z, φ, η, st, ps, rs, sl, r, η', e, q⟩ := h
  cases ps with
  | nil => cases e
  | cons p ps =>
    rw [Reps] at r
    obtain ⟨v, ws, rfl, r1, r2⟩ := r
    obtain ⟨η1, e1, e2⟩ := Option.bind_eq_some_iff.mp (show ((g (.fz p) η st).bind fun η1 => bindAll gs ps η1 st) = some η' from e)
    exact ⟨v, ws, rfl, Z, φ, η, st, .fz p, rs, sl, r1, η1, e1, fun σ' sl' => ⟨Z, φ, η1, st, ps, rs, sl', r2, η', e2, q⟩⟩
theorem bindAll_len : ∀ {gs : List DG} {ps : List P} {η η' : Et} {st : Sr}, bindAll gs ps η st = some η' → ps.length = gs.length
  | [], [], _, _, _, _ => rfl
  | [], _ :: _, _, _, _, h => by cases h
  | _ :: _, [], _, _, _, h => by cases h
  | g :: gs, p :: ps, η, η', st, h => by
    obtain ⟨η1, e1, e2⟩ := Option.bind_eq_some_iff.mp (show ((g (.fz p) η st).bind fun η1 => bindAll gs ps η1 st) = some η' from h)
    simp [bindAll_len e2]
theorem dg_tup {gs : List DG} {k : Nat} (hc : X.calm = true) (h : PGs X es (tGs X.K gs)) (hn : (assignEach es X.env).length = gs.length := by rfl) (hst : (assignEach es X.env).findIdx? (·.1) = none := by rfl) : PG X (.Tuple es k pos) (tG X.K (gTp gs)) := by
  refine (pg_tup hc h hn hst).to fun v σ H Q h => ?_
  obtain ⟨Z, φ, η, st, d, rs, sl, r, η', e, q⟩ := h
  unfold gTp at e
  split at e
  · rename_i ps e1
    obtain ⟨a, vs, rfl, h2, h3⟩ := peek_pk rs e1 r
    exact ⟨a, vs, rfl, h2, by rw [← h3.length]; exact bindAll_len e, Z, φ, η, st, ps, rs, sl, h3, η', e, q⟩
  · cases e
theorem ds_nil : PSs X [] (tS X.K W dSkip) := pss_nil.to fun D σ H ⟨Z, φ, η, st, rs, sl, af⟩ => af _ _ _ .refl rs σ sl
theorem ds_brk : PS X (.Break pos) (tS X.K W dBrk) := ps_break.to fun D σ H ⟨Z, φ, η, st, rs, sl, af⟩ => af _ _ _ .refl rs σ sl
theorem ds_one (h1 : PS X st (tS X.K W g)) : PSs X [st] (tS X.K W g) := pss_one h1
theorem ds_cons (h1 : PS X st (tS X.K W g)) (h2 : PSs X rest (tS X.K W h)) : PSs X (st :: rest) (tS X.K W (dSeq g h)) := by
  refine (pss_cons h1 h2).to fun D σ H hh => ?_
  obtain ⟨Z, φ, η, st, rs, sl, af⟩ := hh
  refine ⟨Z, φ, η, st, rs, sl, af.bind.mono fun r Z' φ' H' t g' rs' => ?_⟩
  obtain ⟨fl, η1, st1⟩ := r
  cases fl with
  | nx => exact fun σ' sl' => ⟨Z', φ', η1, st1, rs', sl', g'⟩
  | rt d => exact g' _ _ _ .refl rs'
  | bk => exact g' _ _ _ .refl rs'
  | ct => exact g' _ _ _ .refl rs'
theorem ds_expr (he : PE X e (tE X.K W f)) (hs : swapsWith e none pos.line X.env = pure false := by rfl) : PS X (.Expr e pos) (tS X.K W (dEx f)) := by
  refine (ps_expr he hs).to fun D σ H hh => ?_
  obtain ⟨Z, φ, η, st, rs, sl, af⟩ := hh
  exact ⟨Z, φ, η, st, rs, sl, af.bind.mono fun a Z' φ' H' t g' rs' v r => g' _ _ _ .refl rs' σ (sl.mono t)⟩
theorem ds_ret (he : PE X e (tE X.K W f)) : PS X (.Return (some e) pos) (tS X.K W (dRet f)) := by
  refine (ps_ret he).to fun D σ H hh => ?_
  obtain ⟨Z, φ, η, st, rs, sl, af⟩ := hh
  exact ⟨Z, φ, η, st, rs, sl, af.bind.mono fun a Z' φ' H' t g' rs' v r => g' _ _ _ .refl rs' v r⟩
theorem ds_if {c : Expr} {a b : List Stmt} (hc : PT X c (tT X.K W t)) (ha : PSs X a (tS X.K W g)) (hb : PSs X b (tS X.K W h)) : PS X (.If c a b pos) (tS X.K W (dIf t g h)) := by
  refine (ps_if hc ha hb).to fun D σ H hh => ?_
  obtain ⟨Z, φ, η, st, rs, sl, af⟩ := hh
  refine ⟨Z, φ, η, st, rs, sl, af.bind.mono fun a Z' φ' H' t g' rs' => ?_⟩
  split at g'
  · rename_i hc; rw [if_pos hc]; exact ⟨Z', φ', η, a.2, rs', sl.mono t, g'⟩
  · rename_i hc; rw [if_neg hc]; exact ⟨Z', φ', η, a.2, rs', sl.mono t, g'⟩
theorem ds_set {i : Nat} {x : Str} {pos' : Pos} (hN : X.N.Nodup) (he : PE X e (tE X.K W f)) (hi : X.N[i]? = some x := by rfl) (hx : Loc X.env.scope x := by first | exact Or.inl rfl | exact Or.inr rfl) (hs : swapsWith e (some (.Name x pos')) pos.line X.env = pure false := by rfl) (hf : X.fn x = true ∨ X.env.scope.names.lookup x = some .local := by first | exact .inl rfl | exact .inr rfl | assumption) :
    PS X (.Assign [.Name x pos'] e pos) (tS X.K W (dAsg f (gNm i))) := by
  refine (ps_set (i := i) hN hi hx he hs hf).to fun D σ H hh => ?_
  obtain ⟨Z, φ, η, st, rs, sl, af⟩ := hh
  exact ⟨Z, φ, η, st, rs, sl, af.bind.mono fun a Z' φ' H' t g' rs' v r => g' _ _ _ .refl rs' _ ((sl.mono t).set r)⟩
theorem ds_asg {tg : Expr} {g : DG} (he : PE X e (tE X.K W f)) (hg : PG X tg (tG X.K g)) (hs : swapsWithSole [tg] e pos.line X.env = pure false := by rfl) (hw : swappedStores [tg] e X.env = pure none := by rfl)
    (hx : (assignEach [tg] X.env).map (·.2) = [assign tg X.env] := by rfl) : PS X (.Assign [tg] e pos) (tS X.K W (dAsg f g)) := by
  refine (ps_asg he hg hs hw hx).to fun D σ H hh => ?_
  obtain ⟨Z, φ, η, st, rs, sl, af⟩ := hh
  refine ⟨Z, φ, η, st, rs, sl, af.bind.mono fun a Z' φ' H' t g' rs' v r => ?_⟩
  split at g'
  · rename_i η1 e1
    exact ⟨Z', φ', η, a.2, a.1, rs', sl.mono t, r, η1, e1, fun σ' sl' => g' _ _ _ .refl rs' _ sl'⟩
  · exact g'.elim
end
def loopD (g : DG) (b : DS) : List P → Et → Sr → R (Fl × Et × Sr)
  | [], η, st => .ok (.nx, η, st)
  | x :: xs, η, st => match g (.fz x) η st with
    | none => .stuck
    | some η1 => (b η1 st).bind fun r => match r.1 with
      | .nx => loopD g b xs r.2.1 r.2.2
      | .ct => loopD g b xs r.2.1 r.2.2
      | .bk => .ok (.nx, r.2.1, r.2.2)
      | .rt d => .ok (.rt d, r.2.1, r.2.2)
def dForL (f : DE) (g : DG) (b : DS) : DS := fun η st => (f η st).bind fun a => match toP a.2 a.1 with
  | some (p, st') => match itemsP p with
    | some xs => loopD g b xs η st'
    | none => .stuck
  | none => .stuck
def rangeP (lo : Int) (n : Nat) : List P := (List.range n).map fun i : Nat => P.int (lo + i)
def dForR1 (f : DA) (g : DG) (b : DS) : DS := fun η st => (f η st).bind fun a => match a.1 with
  | [.fz (.int j)] => if -(2 ^ 62) ≤ j ∧ j < 2 ^ 62 then loopD g b (rangeP 0 j.toNat) η a.2 else .stuck
  | _ => .stuck
def enumP (k : Nat) : List P → List P
  | [] => []
  | p :: ps => .tup [.int k, p] :: enumP (k + 1) ps
def dForE (f : DA) (g : DG) (b : DS) : DS := fun η st => (f η st).bind fun a => match a.1 with
  | [d] => match toP a.2 d with
    | some (.lst xs, st') => loopD g b (enumP 0 xs) η st'
    | some (.rol xs, st') => loopD g b (enumP 0 xs) η st'
    | _ => .stuck
  | _ => .stuck
section
variable {K : PySem.W.Frag} {W : WX} {g : DG} {b : DS} {D : Ends}
def LpI (K : PySem.W.Frag) (W : WX) (g : DG) (b : DS) (D : Ends) (Ex : Hp → Prop) (ys : List P) (σ : St) (H : Hp) : Prop :=
  ∃ Z φ η st, RS K Z φ st H ∧ Slots K Z φ η σ ∧ Ex Z ∧ Af K W Z φ H (loopD g b ys η st) (GS K D)
theorem LpI.turn {Ex : Hp → Prop} (hm : ∀ Z Z', Same Z Z' → Ex Z → Ex Z') {p : P} {ys : List P} {σ : St} {H : Hp} {v : V} (h : LpI K W g b D Ex (p :: ys) σ H) (hv : ∀ Z, Same Z H → Ex Z → Rep K Z p v) :
    tG K g v σ H (fun σ2 H2 => tS K W b { D with nx := LpI K W g b D Ex ys, ct := LpI K W g b D Ex ys, bk := D.nx } σ2 H2) := by
  obtain ⟨Z, φ, η, st, rs, sl, ex, af⟩ := h
  unfold loopD at af
  split at af
  · exact af.elim
  · rename_i η1 e1
    refine ⟨Z, φ, η, st, .fz p, rs, sl, hv Z rs.same ex, η1, e1, fun σ2 sl2 => ⟨Z, φ, η1, st, rs, sl2, af.bind.mono fun r Z' φ' H' t g' rs' => ?_⟩⟩
    obtain ⟨fl, η2, st2⟩ := r
    cases fl with
    | nx => exact fun σ' sl' => ⟨Z', φ', η2, st2, rs', sl', hm _ _ t.hz ex, g'⟩
    | ct => exact fun σ' sl' => ⟨Z', φ', η2, st2, rs', sl', hm _ _ t.hz ex, g'⟩
    | bk => exact g' _ _ _ .refl rs'
    | rt d => exact g' _ _ _ .refl rs'
theorem LpI.done {Ex : Hp → Prop} {σ : St} {H : Hp} (h : LpI K W g b D Ex [] σ H) : D.nx σ H := by
  obtain ⟨Z, φ, η, st, rs, sl, ex, af⟩ := h
  exact af _ _ _ .refl rs _ sl
theorem LpI.same {Ex : Hp → Prop} {ys : List P} {σ : St} {H : Hp} (h : LpI K W g b D Ex ys σ H) : ∃ Z, Same Z H ∧ Ex Z := by
  obtain ⟨Z, φ, η, st, rs, sl, ex, af⟩ := h
  exact ⟨Z, rs.same, ex⟩
theorem drop_cons {α : Type} {xs : List α} {i : Nat} {x : α} (h : xs[i]? = some x) : xs.drop i = x :: xs.drop (i + 1) := by
  obtain ⟨hl, rfl⟩ := List.getElem?_eq_some_iff.mp h
  exact List.drop_eq_getElem_cons hl
end
section
variable {X : Cx} {W : WX} {tg l : Expr} {body : List Stmt} {pos p : Pos} {f : DE} {fs : DA} {g : DG} {b : DS}
/-- a list or a tuple, walked -/
theorem pi_seq {tl : TE} (hl : PE X l tl) : PI X tg l (fun σ H R => tl σ H fun x H1 => ∃ a, x = .ref a ∧ (((∃ xs, SqL X.K H1 a xs) ∧ R (Itl X.K a) H1) ∨ ((∃ xs, SqT X.K H1 a xs) ∧ R (Itt X.K a) H1))) := by
  refine ⟨fun pins s σ H R I h => ?_⟩
  refine thn (hl.run pins s σ H _ I h) fun v s1 ⟨x, H1, I1, r1, q1⟩ => ?_
  obtain ⟨a, e, q1⟩ := q1
  subst e
  cases r1
  rcases q1 with ⟨⟨xs, hq⟩, q⟩ | ⟨⟨xs, hq⟩, q⟩
  · obtain ⟨its, rv, p, hz⟩ := I1.list hq
    refine wpAny_pyIter_list p.isList ?_
    refine ⟨s1.heap.objs.size, [s1.heap.objs.size], _, _, H1, rfl, I1.kept (t' := s1.toks) fun b o e => Heap.get?_push_of_some _ e, turn_list a _, ⟨_, Heap.get?_push_size _ rfl, rfl, rfl⟩, fun b hb => ?_, q⟩
    have e : b = s1.heap.objs.size := by simpa using hb
    subst e
    exact I1.fpOk (Nat.le_refl _) (I1.hok.fresh (Nat.le_refl _))
  · obtain ⟨its, rv, p, hz⟩ := I1.tuple hq
    refine wpAny_pyIter_tuple (show s1.heap.IsTuple a its.toArray from p) ?_
    refine ⟨s1.heap.objs.size, [s1.heap.objs.size], _, _, H1, rfl, I1.kept (t' := s1.toks) fun b o e => Heap.get?_push_of_some _ e, turn_tuple a _, ⟨_, Heap.get?_push_size _ rfl, rfl, rfl⟩, fun b hb => ?_, q⟩
    have e : b = s1.heap.objs.size := by simpa using hb
    subst e
    exact I1.fpOk (Nat.le_refl _) (I1.hok.fresh (Nat.le_refl _))
theorem pk_itemsZ {K : PySem.W.Frag} {Z : Hp} {p : P} {v : V} {xs : List P} (h : Rep K Z p v) (e : itemsP p = some xs) : ∃ a vs, v = .ref a ∧ (SqL K Z a vs ∨ SqT K Z a vs) ∧ Reps K Z xs vs := pk_items (Rep.pk (Same.refl _) h) e
theorem ds_for (hp : PassesOwn (model X.prog X.w) X.A X.env X.xe) (hc : X.calm = true) (hl : PE X l (tE X.K W f)) (hg : PG X tg (tG X.K g)) (hb : PSs X body (tS X.K W b)) (hs : ∀ x, foldedSetIterable l X.env x = pure x := by intro _; rfl) :
    PS X (.For tg l body [] pos) (tS X.K W (dForL f g b)) := by
  refine (ps_for hp hc (pi_seq hl) hg hb hs).to fun D σ H hh => ?_
  obtain ⟨Z, φ, η, st, rs, sl, af⟩ := hh
  refine ⟨Z, φ, η, st, rs, sl, af.bind.mono fun a Z' φ' H' t g' rs' v r => ?_⟩
  split at g'
  · rename_i p st' e1
    split at g'
    · rename_i xs e2
      obtain ⟨Z2, f2, rs2, q2⟩ := toP_ok rs' e1 r
      obtain ⟨a', vs, rfl, h2, h3⟩ := pk_itemsZ q2 e2
      have af2 := g'.later f2.step
      rcases h2 with h2 | h2
      · refine ⟨a', rfl, .inl ⟨⟨vs, rs2.same.seq h2⟩, ?_⟩⟩
        refine for_list (K := X.K) (a := a') (xs := vs) (fun i σ' H' => LpI X.K W g b D (fun Z => SqL X.K Z a' vs ∧ Reps X.K Z xs vs) (xs.drop i) σ' H') ⟨Z2, φ', η, st', rs2, (sl.mono t).mono f2.step, ⟨h2, h3⟩, by rw [List.drop_zero]; exact af2⟩ (fun i σ' H' _ hh => ?_) (fun i x σ' H' hx hh => ?_) (fun σ' H' hh => ?_)
        · obtain ⟨Z3, s3, e3, _⟩ := hh.same; exact s3.seq e3
        · have hl : i < xs.length := by rw [h3.length]; exact (List.getElem?_eq_some_iff.mp hx).1
          rw [drop_cons (List.getElem?_eq_getElem hl)] at hh
          refine hh.turn (fun Z Z' s ⟨e1, e2⟩ => ⟨s.seq e1, e2.mono s⟩) fun Z _ ⟨_, e2⟩ => ?_
          obtain ⟨v, hv, rv⟩ := e2.get (List.getElem?_eq_getElem hl)
          rw [hx] at hv; cases hv; exact rv
        · rw [← h3.length, List.drop_length] at hh
          exact hh.done
      · refine ⟨a', rfl, .inr ⟨⟨vs, same_sqT rs2.same h2⟩, ?_⟩⟩
        refine for_tup (K := X.K) (a := a') (xs := vs) (fun i σ' H' => LpI X.K W g b D (fun Z => SqT X.K Z a' vs ∧ Reps X.K Z xs vs) (xs.drop i) σ' H') ⟨Z2, φ', η, st', rs2, (sl.mono t).mono f2.step, ⟨h2, h3⟩, by rw [List.drop_zero]; exact af2⟩ (fun i σ' H' _ hh => ?_) (fun i x σ' H' hx hh => ?_) (fun σ' H' hh => ?_)
        · obtain ⟨Z3, s3, e3, _⟩ := hh.same; exact same_sqT s3 e3
        · have hl : i < xs.length := by rw [h3.length]; exact (List.getElem?_eq_some_iff.mp hx).1
          rw [drop_cons (List.getElem?_eq_getElem hl)] at hh
          refine hh.turn (fun Z Z' s ⟨e1, e2⟩ => ⟨same_sqT s e1, e2.mono s⟩) fun Z _ ⟨_, e2⟩ => ?_
          obtain ⟨v, hv, rv⟩ := e2.get (List.getElem?_eq_getElem hl)
          rw [hx] at hv; cases hv; exact rv
        · rw [← h3.length, List.drop_length] at hh
          exact hh.done
    · exact g'.elim
  · exact g'.elim
theorem rangeP_get {lo : Int} {n i : Nat} (h : i < n) : (rangeP lo n)[i]? = some (.int (lo + i)) := by
  unfold rangeP
  rw [List.getElem?_map, List.getElem?_range h]
  rfl
theorem rangeP_len {lo : Int} {n : Nat} : (rangeP lo n).length = n := by unfold rangeP; simp
theorem rng_loop {D : Ends} {σ : St} {H Z : Hp} {φ : List Addr} {η : Et} {st : Sr} {lo : Int} {n : Nat} (rs : RS X.K Z φ st H) (sl : Slots X.K Z φ η σ) (af : Af X.K W Z φ H (loopD g b (rangeP lo n) η st) (GS X.K D)) :
    ∃ W' : Nat → Nat → St → Hp → Prop, (∃ m, W' 0 m σ H) ∧ ∀ i m σ H, W' i m σ H →
      ((Itr lo n).stop i H ∧ D.nx σ H) ∨ ((Itr lo n).go i H ∧ ∃ N : St → Hp → Prop, (∀ σ' H', N σ' H' → ∃ m', m' < m ∧ W' (i + 1) m' σ' H') ∧ ∀ x H', (Itr lo n).yld i H x H' → tG X.K g x σ H' fun σ2 H2 => tS X.K W b { D with nx := N, ct := N, bk := D.nx } σ2 H2) := by
  refine for_range (lo := lo) (n := n) (fun i σ' H' => LpI X.K W g b D (fun _ => True) ((rangeP lo n).drop i) σ' H') ⟨Z, φ, η, st, rs, sl, trivial, by rw [List.drop_zero]; exact af⟩ (fun i σ' H' hi hh => ?_) (fun σ' H' hh => ?_)
  · rw [drop_cons (rangeP_get hi)] at hh
    exact hh.turn (fun _ _ _ _ => trivial) fun Z _ _ => by rw [Rep]
  · rw [List.drop_eq_nil_of_le (by rw [rangeP_len]; exact Nat.le_refl _)] at hh
    exact hh.done
theorem ds_forR1 {a : Expr} {pos' : Pos} (hp : PassesOwn (model X.prog X.w) X.A X.env X.xe) (hc : X.calm = true) (hgl : Gl X "range") (hm : X.mg "range" = none) (ha : PA X [a] (tA X.K W fs)) (hg : PG X tg (tG X.K g)) (hb : PSs X body (tS X.K W b)) (hss : starEach [a] X.env = [(false, eval a X.env)] := by rfl)
    (hs : ∀ x, foldedSetIterable (.Call (.Name "range" p) [a] [] pos) X.env x = pure x := by intro _; rfl) :
    PS X (.For tg (.Call (.Name "range" p) [a] [] pos) body [] pos') (tS X.K W (dForR1 fs g b)) := by
  refine (ps_for hp hc (pi_range1 hgl hm ha hss) hg hb hs).to fun D σ H hh => ?_
  obtain ⟨Z, φ, η, st, rs, sl, af⟩ := hh
  refine ⟨Z, φ, η, st, rs, sl, af.bind.mono fun a Z' φ' H' t g' rs' vs r => ?_⟩
  split at g'
  · rename_i j ej
    rw [ej] at r
    obtain ⟨v, rfl, rj⟩ := r.one
    obtain rfl := fz_int rj
    split at g'
    · rename_i hz
      refine ⟨j, rfl, hz.1, hz.2, rng_loop rs' (sl.mono t) g'⟩
    · exact g'.elim
  · exact g'.elim
theorem enumP_drop : ∀ (xs : List P) (k i : Nat), (enumP k xs).drop i = enumP (k + i) (xs.drop i)
  | xs, k, 0 => by simp
  | [], k, i + 1 => by simp [enumP]
  | x :: xs, k, i + 1 => by
    show (enumP (k + 1) xs).drop i = enumP (k + (i + 1)) (xs.drop i)
    rw [enumP_drop xs (k + 1) i]
    congr 1; omega
theorem ds_forE {a : Expr} {pos' tpos : Pos} {elts : List Expr} {kk : Nat} (hp : PassesOwn (model X.prog X.w) X.A X.env X.xe) (hc : X.calm = true) (hgl : Gl X "enumerate") (hm : X.mg "enumerate" = none) (ha : PA X [a] (tA X.K W fs)) (hg : PG X (.Tuple elts kk tpos) (tG X.K g)) (hb : PSs X body (tS X.K W b)) (hss : starEach [a] X.env = [(false, eval a X.env)] := by rfl)
    (hs : ∀ x, foldedSetIterable (.Call (.Name "enumerate" p) [a] [] pos) X.env x = pure x := by intro _; rfl) :
    PS X (.For (.Tuple elts kk tpos) (.Call (.Name "enumerate" p) [a] [] pos) body [] pos') (tS X.K W (dForE fs g b)) := by
  refine (ps_for hp hc (pi_enum hgl hm ha hss) hg hb hs).to fun D σ H hh => ?_
  obtain ⟨Z, φ, η, st, rs, sl, af⟩ := hh
  refine ⟨Z, φ, η, st, rs, sl, af.bind.mono fun a Z' φ' H' t g' rs' vs r => ?_⟩
  have main : ∀ {xs : List P} {st' : Sr} {d : M.D} {v : V} {p : P}, toP a.2 d = some (p, st') → itemsP p = some xs → (∀ Z v, Rep X.K Z p v → ∃ a' ws, v = .ref a' ∧ SqL X.K Z a' ws ∧ Reps X.K Z xs ws) → RepD X.K Z' φ' d v → Af X.K W Z' φ' H' (loopD g b (enumP 0 xs) η st') (GS X.K D) →
      ∃ a' xs', [v] = [V.ref a'] ∧ SqL X.K H' a' xs' ∧ ∃ W' : Nat → Nat → St → Hp → Prop, (∃ m, W' 0 m σ H') ∧ ∀ i m σ H, W' i m σ H →
      ((Ite X.K a').stop i H ∧ D.nx σ H) ∨ ((Ite X.K a').go i H ∧ ∃ N : St → Hp → Prop, (∀ σ' H', N σ' H' → ∃ m', m' < m ∧ W' (i + 1) m' σ' H') ∧ ∀ x H', (Ite X.K a').yld i H x H' → tG X.K g x σ H' fun σ2 H2 => tS X.K W b { D with nx := N, ct := N, bk := D.nx } σ2 H2) := by
    intro xs st' d v p e1 e2 hh rd g'
    obtain ⟨Z2, f2, rs2, q2⟩ := toP_ok rs' e1 rd
    obtain ⟨a', ws, rfl, h2, h3⟩ := hh _ _ q2
    refine ⟨a', ws, rfl, rs2.same.seq h2, fun i m σ' H' => m = ws.length - i ∧ i ≤ ws.length ∧ LpI X.K W g b D (fun Z => SqL X.K Z a' ws ∧ Reps X.K Z xs ws) ((enumP 0 xs).drop i) σ' H', ⟨ws.length, by simp, Nat.zero_le _, Z2, φ', η, st', rs2, (sl.mono t).mono f2.step, ⟨h2, h3⟩, by rw [List.drop_zero]; exact g'.later f2.step⟩, ?_⟩
    rintro i m σ' H2 ⟨rfl, hi, hh⟩
    obtain ⟨Z3, s3, e3, e4⟩ := id hh.same
    have sq := s3.seq e3
    by_cases hlt : i < ws.length
    · have hl : i < xs.length := by rw [h3.length]; exact hlt
      refine .inr ⟨⟨ws, ws[i], sq, by simp [hlt]⟩, fun σ3 H3 => LpI X.K W g b D (fun Z => SqL X.K Z a' ws ∧ Reps X.K Z xs ws) ((enumP 0 xs).drop (i + 1)) σ3 H3, fun σ3 H3 q => ⟨ws.length - (i + 1), by omega, rfl, hlt, q⟩, fun x H3 y => ?_⟩
      obtain ⟨T, y0, rfl, hT, rfl, y1⟩ := y
      have hy := y1 ws sq
      rw [enumP_drop, drop_cons (List.getElem?_eq_getElem hl)] at hh
      have ed : enumP (0 + i + 1) (xs.drop (i + 1)) = (enumP 0 xs).drop (i + 1) := by rw [enumP_drop]; congr 1
      have hh2 : LpI X.K W g b D (fun Z => (SqL X.K Z a' ws ∧ Reps X.K Z xs ws) ∧ Rep X.K Z (.tup [.int ((0 + i : Nat) : Int), xs[i]]) (.ref T)) (.tup [.int ((0 + i : Nat) : Int), xs[i]] :: enumP (0 + i + 1) (xs.drop (i + 1))) σ' (upd H2 T (.tup [.int (i : Nat), y0])) := by
        obtain ⟨Z4, φ4, η4, st4, rs4, sl4, ⟨e5, e6⟩, af4⟩ := hh
        obtain ⟨rs5, s5⟩ := rs4.newZ (o := .tup [.int (i : Nat), y0]) hT
        refine ⟨_, φ4, η4, st4, rs5, sl4.mono s5, ⟨⟨s5.hz.seq e5, e6.mono s5.hz⟩, ?_⟩, af4.later s5⟩
        rw [Rep]
        refine ⟨T, _, rfl, .inl (.inl upd_same), .cons (by rw [Rep]; simp) (.one ?_)⟩
        obtain ⟨v, hv, rv⟩ := e6.get (List.getElem?_eq_getElem hl)
        rw [hy] at hv; cases hv
        exact rv.mono s5.hz
      rw [ed] at hh2
      have tn := hh2.turn (fun Z Z' s ⟨⟨e1, e2⟩, e3⟩ => ⟨⟨s.seq e1, e2.mono s⟩, e3.mono s⟩) (v := .ref T) fun Z _ ⟨_, e3⟩ => e3
      obtain ⟨Z6, φ6, η6, st6, d6, rs6, sl6, r6, η7, e7, q7⟩ := tn
      refine ⟨Z6, φ6, η6, st6, d6, rs6, sl6, r6, η7, e7, fun σ7 sl7 => ?_⟩
      obtain ⟨Z8, φ8, η8, st8, rs8, sl8, af8⟩ := q7 σ7 sl7
      refine ⟨Z8, φ8, η8, st8, rs8, sl8, af8.mono fun r Z' φ' H' t g' rs' => ?_⟩
      obtain ⟨fl, η9, st9⟩ := r
      have low : ∀ σ0, LpI X.K W g b D (fun Z => (SqL X.K Z a' ws ∧ Reps X.K Z xs ws) ∧ Rep X.K Z (.tup [.int ((0 + i : Nat) : Int), xs[i]]) (.ref T)) ((enumP 0 xs).drop (i + 1)) σ0 H' → LpI X.K W g b D (fun Z => SqL X.K Z a' ws ∧ Reps X.K Z xs ws) ((enumP 0 xs).drop (i + 1)) σ0 H' := fun σ0 ⟨Z, φ, η, st, r1, r2, r3, r4⟩ => ⟨Z, φ, η, st, r1, r2, r3.1, r4⟩
      have g9 := g' rs'
      cases fl with
      | nx => exact fun σ0 sl0 => low σ0 (g9 σ0 sl0)
      | ct => exact fun σ0 sl0 => low σ0 (g9 σ0 sl0)
      | bk => exact g9
      | rt d => exact g9
    · have e : i = ws.length := by omega
      subst e
      rw [enumP_drop, ← h3.length, List.drop_length] at hh
      exact .inl ⟨⟨ws, sq, Nat.le_refl _⟩, hh.done⟩
  split at g'
  · rename_i d ej
    rw [ej] at r
    obtain ⟨v, rfl, rj⟩ := r.one
    split at g'
    · rename_i xs st' e1
      exact main e1 rfl (fun Z v h => by rw [Rep] at h; obtain ⟨a', ws, e, h2, h3⟩ := h; exact ⟨a', ws, e, SqL.of h2, h3⟩) rj g'
    · rename_i xs st' e1
      exact main e1 rfl (fun Z v h => by rw [Rep] at h; exact h) rj g'
    · exact g'.elim
  · exact g'.elim
end
end M
end
section
set_option Elab.async false
set_option linter.all false
set_option maxRecDepth 100000
set_option maxHeartbeats 0
namespace M
open PySem L2
def cellsD : D → List Nat
  | .cell n => [n]
  | .fz _ => []
def cellsF : List (Str × D) → List Nat
  | [] => []
  | (_, d) :: fs => cellsD d ++ cellsF fs
def cellsA : List D → List Nat
  | [] => []
  | d :: ds => cellsD d ++ cellsA ds
def cellsC : Ct → List Nat
  | .obj _ fs => cellsF fs
  | .lsD xs => cellsA xs
  | .tuD xs => cellsA xs
  | _ => []
def addNew : List Nat → List Nat → List Nat
  | acc, [] => acc
  | acc, n :: ns => if n ∈ acc then addNew acc ns else addNew (acc ++ [n]) ns
def grow (st : Sr) : List Nat → List Nat → List Nat
  | acc, [] => acc
  | acc, i :: is => grow st (match st[i]? with | some c => addNew acc (cellsC c) | none => acc) is
def reach (st : Sr) (is : List Nat) : List Nat := match is with
  | [] => []
  | i :: is => let a := addNew [] (i :: is); let b := grow st a a; grow st b b
def idx (n : Nat) : List Nat → Option Nat
  | [] => none
  | m :: ms => if m = n then some 0 else (idx n ms).map (· + 1)
def ren (ids : List Nat) : D → Option D
  | .fz p => some (.fz p)
  | .cell n => (idx n ids).map .cell
def renF (ids : List Nat) : List (Str × D) → Option (List (Str × D))
  | [] => some []
  | (k, d) :: fs => match ren ids d, renF ids fs with
    | some d', some fs' => some ((k, d') :: fs')
    | _, _ => none
def renA (ids : List Nat) : List D → Option (List D)
  | [] => some []
  | d :: ds => match ren ids d, renA ids ds with
    | some d', some ds' => some (d' :: ds')
    | _, _ => none
def renC (ids : List Nat) : Ct → Option Ct
  | .obj c fs => (renF ids fs).map (.obj c)
  | .lsD xs => (renA ids xs).map .lsD
  | .tuD xs => (renA ids xs).map .tuD
  | .lst xs => some (.lst xs)
  | .dct xs => some (.dct xs)
  | .ldct xs => some (.ldct xs)
  | .frz p => some (.frz p)
def subG (ids : List Nat) (st : Sr) : List Nat → Option Sr
  | [] => some []
  | i :: is => match st[i]? with
    | some c => match renC ids c, subG ids st is with
      | some c', some cs => some (c' :: cs)
      | _, _ => none
    | none => none
abbrev subS (ids : List Nat) (st : Sr) : Option Sr := subG ids st ids
section
variable {K : PySem.W.Frag} {Z H : Hp} {φ ψ : List Addr}
theorem idx_get : ∀ {ids : List Nat} {n j : Nat}, idx n ids = some j → ids[j]? = some n
  | m :: ms, n, j, h => by
    unfold idx at h
    split at h
    · rename_i e; cases h; simp [e]
    · cases q : idx n ms with
      | none => rw [q] at h; cases h
      | some k => rw [q] at h; cases h; simpa using idx_get q
/-- ψ: the addresses of the ids -/
def AtIds (φ ψ : List Addr) (ids : List Nat) : Prop := ψ.length = ids.length ∧ ∀ (j n : Nat), ids[j]? = some n → ∃ a, φ[n]? = some a ∧ ψ[j]? = some a
theorem ren_ok {ids : List Nat} (hi : AtIds φ ψ ids) {d d' : D} {v : V} (e : ren ids d = some d') (r : RepD K Z φ d v) : RepD K Z ψ d' v := by
  cases d with
  | fz p => cases e; exact r
  | cell n =>
    replace e : (idx n ids).map D.cell = some d' := e
    cases q : idx n ids with
    | none => rw [q] at e; cases e
    | some j =>
      rw [q] at e; cases e
      obtain ⟨a, h1, rfl⟩ := r
      obtain ⟨b, h2, h3⟩ := hi.2 j n (idx_get q)
      rw [h1] at h2; cases h2
      exact ⟨a, h3, rfl⟩
theorem renA_ok {ids : List Nat} (hi : AtIds φ ψ ids) : ∀ {ds ds' : List D} {vs : List V}, renA ids ds = some ds' → RepDs K Z φ ds vs → RepDs K Z ψ ds' vs
  | [], ds', vs, e, r => by cases e; exact r
  | d :: ds, ds', vs, e, r => by
    unfold renA at e
    obtain ⟨v, ws, rfl, r1, r2⟩ := r
    split at e
    · rename_i d' ds2 e1 e2; cases e; exact ⟨v, ws, rfl, ren_ok hi e1 r1, renA_ok hi e2 r2⟩
    · cases e
theorem renF_ok {ids : List Nat} (hi : AtIds φ ψ ids) : ∀ {ds ds' : List (Str × D)} {vs : List (Str × V)}, renF ids ds = some ds' → RepDF K Z φ ds vs → RepDF K Z ψ ds' vs
  | [], ds', vs, e, r => by cases e; exact r
  | (k, d) :: ds, ds', vs, e, r => by
    unfold renF at e
    obtain ⟨v, ws, rfl, r1, r2⟩ := r
    split at e
    · rename_i d' ds2 e1 e2; cases e; exact ⟨v, ws, rfl, ren_ok hi e1 r1, renF_ok hi e2 r2⟩
    · cases e
theorem renC_ok {ids : List Nat} (hi : AtIds φ ψ ids) {a : Addr} {c c' : Ct} (e : renC ids c = some c') (r : RelC K Z φ H a c) : RelC K Z ψ H a c' := by
  cases c with
  | lst xs => cases e; exact r
  | dct xs => cases e; exact r
  | ldct xs => cases e; exact r
  | frz xs => cases e; exact r
  | lsD xs =>
    replace e : (renA ids xs).map Ct.lsD = some c' := e
    cases q : renA ids xs with
    | none => rw [q] at e; cases e
    | some xs' =>
      rw [q] at e; cases e
      obtain ⟨hz, gs, h1, h2⟩ := r
      exact ⟨hz, gs, h1, renA_ok hi q h2⟩
  | tuD xs =>
    replace e : (renA ids xs).map Ct.tuD = some c' := e
    cases q : renA ids xs with
    | none => rw [q] at e; cases e
    | some xs' =>
      rw [q] at e; cases e
      obtain ⟨hz, gs, h1, h2⟩ := r
      exact ⟨hz, gs, h1, renA_ok hi q h2⟩
  | obj c fs =>
    replace e : (renF ids fs).map (Ct.obj c) = some c' := e
    cases q : renF ids fs with
    | none => rw [q] at e; cases e
    | some fs' =>
      rw [q] at e; cases e
      obtain ⟨hz, dx, gs, h1, h2⟩ := r
      exact ⟨hz, dx, gs, h1, renF_ok hi q h2⟩
theorem subG_get {ids : List Nat} {st : Sr} : ∀ {is : List Nat} {cs : Sr}, subG ids st is = some cs → cs.length = is.length ∧ ∀ (j n : Nat), is[j]? = some n → ∃ c c', st[n]? = some c ∧ renC ids c = some c' ∧ cs[j]? = some c'
  | [], cs, h => by cases h; exact ⟨rfl, fun j n e => by simp at e⟩
  | i :: is, cs, h => by
    unfold subG at h
    split at h
    · rename_i c e1
      split at h
      · rename_i c' cs' e2 e3
        cases h
        obtain ⟨hl, hg⟩ := subG_get e3
        refine ⟨by simp [hl], fun j n e => ?_⟩
        cases j with
        | zero => simp at e; subst e; exact ⟨c, c', e1, e2, rfl⟩
        | succ j => simpa using hg j n (by simpa using e)
      · cases h
    · cases h
/-- the part stands over the addresses of its ids -/
theorem subS_ok {ids : List Nat} {st st' : Sr} (rs : RS K Z φ st H) (nd : ids.Nodup) (e : subS ids st = some st') : ∃ ψ, AtIds φ ψ ids ∧ RS K Z ψ st' H := by
  obtain ⟨hl, hg⟩ := subG_get e
  have ex : ∀ n ∈ ids, ∃ a, φ[n]? = some a := fun n hn => by
    obtain ⟨j, hj⟩ := List.getElem?_of_mem hn
    obtain ⟨c, c', h1, _⟩ := hg j n hj
    obtain ⟨q, _⟩ := List.getElem?_eq_some_iff.mp h1
    exact ⟨_, List.getElem?_eq_getElem (by rw [rs.len]; exact q)⟩
  have at_ : AtIds φ (ids.map fun n => φ.getD n 0) ids := ⟨by simp, fun j n hj => by
    obtain ⟨a, ha⟩ := ex n (List.mem_of_getElem? hj)
    exact ⟨a, ha, by rw [List.getElem?_map, hj]; simp [List.getD, ha]⟩⟩
  refine ⟨_, at_, rs.same, by rw [List.length_map, hl], ?_, fun j a c hj hc => ?_, rs.tb, rs.zd⟩
  · refine List.pairwise_map.mpr (nd.imp_of_mem fun {n m} hn hm hne he => hne ?_)
    obtain ⟨a, ha⟩ := ex n hn
    obtain ⟨b, hb⟩ := ex m hm
    simp only [List.getD, ha, hb, Option.getD_some] at he
    subst he
    exact RS.write.nodup_ix' rs.nd ha hb
  · rw [List.getElem?_map] at hj
    cases q : ids[j]? with
    | none => rw [q] at hj; cases hj
    | some n =>
      rw [q] at hj
      obtain ⟨c0, c', h1, h2, h3⟩ := hg j n q
      rw [hc] at h3; cases h3
      obtain ⟨b, hb⟩ := ex n (List.mem_of_getElem? q)
      simp only [Option.map_some, Option.some.injEq, List.getD, hb, Option.getD_some] at hj
      subst hj
      exact renC_ok at_ h2 (rs.cells n b c0 hb h1)
end
def frzTop (m : Nat) (st : Sr) : D → Option (D × Sr)
  | .fz p => some (.fz p, st)
  | .cell n => if n < m then some (.cell n, st) else (toP st (.cell n)).map fun r => (.fz r.1, r.2)
def exitI (m : Nat) (d : D) (st : Sr) : R (D × Sr) :=
  if (reach st (List.range m ++ cellsD d)).take m = List.range m ∧ (reach st (List.range m ++ cellsD d)).Nodup then
    match ren (reach st (List.range m ++ cellsD d)) d, subS (reach st (List.range m ++ cellsD d)) st with
    | some d2, some st2 => .ok (d2, st2)
    | _, _ => .stuck
  else .stuck
def exitF (fr : Bool) (m : Nat) (d : D) (st : Sr) : R (D × Sr) := match fr with
  | true => match frzTop m st d with
    | some (d1, st1) => exitI m d1 st1
    | none => .stuck
  | false => exitI m d st
def exitX (m : Nat) (c : Str) (fs : Option (List (Str × P))) (st : Sr) : R (D × Sr) :=
  match exitI m (.fz .non) st with
  | .ok (_, st2) => .exc c fs [] st2
  | _ => .stuck
def endF (fr : Bool) (m : Nat) : R (Fl × Et × Sr) → R (D × Sr)
  | .ok (.rt d, _, st') => exitF fr m d st'
  | .ok (.nx, _, st') => exitF fr m (.fz .non) st'
  | .ok _ => .stuck
  | .exc c fs _ st' => exitX m c fs st'
  | .stuck => .stuck
def runF (np n : Nat) (fr : Bool) (b : DS) : DF := fun ds st => if ds.length = np then endF fr st.length (b (ds.map some ++ List.replicate (n - np) none) st) else .stuck
/-- the promise of a def that means F -/
def spF (K : PySem.W.Frag) (F : DF) : Sp := fun vs H Q E => ∃ Z φ st ds, RS K Z φ st H ∧ RepDs K Z φ ds vs ∧ Af K (fun c d _ H => E c d H) Z φ H (F ds st) (GE K Q)
section
variable {K : PySem.W.Frag} {Z H : Hp} {φ ψ : List Addr}
theorem exitI_ok {m : Nat} {d d2 : D} {st st2 : Sr} {v : V} {Z0 H0 : Hp} (hm : φ.length = m) (s : Step Z0 φ H0 Z (φ ++ ψ) H) (rs : RS K Z (φ ++ ψ) st H) (r : RepD K Z (φ ++ ψ) d v) (e : exitI m d st = .ok (d2, st2)) :
    ∃ φ2, Step Z0 φ H0 Z φ2 H ∧ RS K Z φ2 st2 H ∧ RepD K Z φ2 d2 v := by
  unfold exitI at e
  generalize reach st (List.range m ++ cellsD d) = ids at e
  split at e
  · rename_i hc
    split at e
    · rename_i d3 st3 e1 e2
      cases e
      obtain ⟨χ, at_, rs2⟩ := subS_ok rs hc.2 e2
      refine ⟨χ, ⟨s.hz, ?_, s.fr, s.zn, s.up, s.lk⟩, rs2, ren_ok at_ e1 r⟩
      have hlen : m ≤ ids.length := by
        have := congrArg List.length hc.1
        rw [List.length_take, List.length_range] at this; omega
      obtain ⟨psi, he, hn⟩ := s.pre
      obtain rfl := List.append_cancel_left he
      have htake : χ.take m = φ := by
        apply List.ext_getElem?
        intro j
        by_cases hj : j < m
        · rw [List.getElem?_take_of_lt hj]
          have hij : ids[j]? = some j := by
            have := congrArg (fun l => l[j]?) hc.1
            simp only [List.getElem?_take_of_lt hj, List.getElem?_range hj] at this
            exact this
          obtain ⟨a, h1, h2⟩ := at_.2 j j hij
          rw [h2, ← h1, List.getElem?_append_left (by omega)]
        · rw [List.getElem?_eq_none (by simp; omega), List.getElem?_eq_none (by omega)]
      refine ⟨χ.drop m, by rw [← htake]; simp, fun a ha => ?_⟩
      obtain ⟨j, hj⟩ := List.getElem?_of_mem ha
      rw [List.getElem?_drop] at hj
      have hjl : m + j < ids.length := by rw [← at_.1]; exact (List.getElem?_eq_some_iff.mp hj).1
      obtain ⟨b, h1, h2⟩ := at_.2 (m + j) _ (List.getElem?_eq_getElem hjl)
      rw [hj] at h2; cases h2
      by_cases hk : ids[m + j] < φ.length
      · exfalso
        have hij : ids[ids[m + j]]? = some ids[m + j] := by
          have := congrArg (fun l => l[ids[m + j]]?) hc.1
          simp only [List.getElem?_take_of_lt (show ids[m + j] < m by omega), List.getElem?_range (show ids[m + j] < m by omega)] at this
          exact this
        obtain ⟨hl, hge⟩ := List.getElem?_eq_some_iff.mp hij
        have := (List.getElem_inj (h₀ := hl) (h₁ := hjl) hc.2).mp hge
        omega
      · rw [List.getElem?_append_right (by omega)] at h1
        exact hn a (List.mem_of_getElem? h1)
    · cases e
  · cases e
theorem Af.exitF {W : WX} {fr : Bool} {m : Nat} {d : D} {st : Sr} {v : V} {Z0 H0 : Hp} {Q : VK} (hm : φ.length = m) (af : Af K W Z0 φ H0 (exitF fr m d st) (GE K Q)) (s : Step Z0 φ H0 Z (φ ++ ψ) H) (rs : RS K Z (φ ++ ψ) st H) (r : RepD K Z (φ ++ ψ) d v) : Q v H := by
  have main : ∀ {d : D} {st : Sr} {Z : Hp}, Af K W Z0 φ H0 (exitI m d st) (GE K Q) → Step Z0 φ H0 Z (φ ++ ψ) H → RS K Z (φ ++ ψ) st H → RepD K Z (φ ++ ψ) d v → Q v H := by
    intro d st Z af s rs r
    cases e : exitI m d st with
    | ok a =>
      obtain ⟨d2, st2⟩ := a
      rw [e] at af
      obtain ⟨φ2, s2, rs2, r2⟩ := exitI_ok hm s rs r e
      exact af _ _ _ s2 rs2 v r2
    | exc c fs η st' =>
      unfold exitI at e
      split at e
      · split at e <;> cases e
      · cases e
    | stuck => rw [e] at af; exact af.elim
  cases fr with
  | false => exact main af s rs r
  | true =>
    unfold M.exitF at af
    dsimp only at af
    split at af
    · rename_i d1 st1 e
      cases d with
      | fz p => cases e; exact main af s rs r
      | cell n =>
        replace e : (if n < m then some (D.cell n, st) else (toP st (.cell n)).map fun r => (D.fz r.1, r.2)) = some (d1, st1) := e
        split at e
        · cases e; exact main af s rs r
        · cases q : toP st (.cell n) with
          | none => rw [q] at e; cases e
          | some pr =>
            obtain ⟨p, st'⟩ := pr
            rw [q] at e; cases e
            obtain ⟨Z2, f2, rs2, r2⟩ := toP_ok rs q r
            refine main af (s.trans f2.step) rs2 r2
    · exact af.elim
end
theorem slots_start {K : PySem.W.Frag} {Z : Hp} {φ : List Addr} : ∀ {ds : List D} {vs : List V} {k : Nat}, RepDs K Z φ ds vs → Slots K Z φ (ds.map some ++ List.replicate k none) (vs.map some ++ List.replicate k none)
  | [], vs, k, h => by
    cases h
    refine ⟨by simp, fun i d e => ?_⟩
    simp only [List.map_nil, List.nil_append, List.getElem?_replicate] at e
    split at e <;> cases e
  | d :: ds, vs, k, h => by
    obtain ⟨v, ws, rfl, h1, h2⟩ := h
    have ih := slots_start (k := k) h2
    refine ⟨by simpa using ih.len, fun i d' e => ?_⟩
    cases i with
    | zero => simp at e; subst e; exact ⟨v, rfl, h1⟩
    | succ i => simpa using ih.at_ i d' (by simpa using e)
theorem RepDs.length {K : PySem.W.Frag} {Z : Hp} {φ : List Addr} : ∀ {ds : List D} {vs : List V}, RepDs K Z φ ds vs → ds.length = vs.length
  | [], vs, h => by cases h; rfl
  | d :: ds, vs, h => by obtain ⟨v, ws, rfl, _, h2⟩ := h; simp [RepDs.length h2]
/-- from a body's meaning to the def's -/
theorem spF_len {K : PySem.W.Frag} {n np : Nat} {fr : Bool} {b : DS} {vs : List V} {H : Hp} {Q : VK} {E : XK} (h : spF K (runF np n fr b) vs H Q E) : vs.length = np := by
  obtain ⟨Z, φ, st, ds, rs, rd, af⟩ := h
  unfold runF at af
  split at af
  · rename_i hl; rw [← rd.length]; exact hl
  · exact af.elim
theorem body_ok {K : PySem.W.Frag} {n np : Nat} {fr : Bool} {b : DS} {N : List Str} {vs : List V} {H : Hp} {Q : VK} {E : XK} (hN : N.length = n) (h : spF K (runF np n fr b) vs H Q E) :
    tS K (fun c d _ H => E c d H) b { nx := fun _ H' => Q .non H', rt := Q } (L2.start N vs) H := by
  have hv := spF_len h
  obtain ⟨Z, φ, st, ds, rs, rd, af⟩ := h
  have hl := rd.length
  refine ⟨Z, φ, ds.map some ++ List.replicate (n - np) none, st, rs, by unfold L2.start; rw [hN, hv]; exact slots_start rd, ?_⟩
  unfold runF at af
  rw [if_pos (hl.trans hv)] at af
  cases e : b (ds.map some ++ List.replicate (n - np) none) st with
  | ok r =>
    obtain ⟨fl, η', st'⟩ := r
    rw [e] at af
    intro Z' φ' H' s rs'
    obtain ⟨psi, rfl, hn⟩ := s.pre
    cases fl with
    | nx => exact fun σ' _ => Af.exitF rs.len af s rs' rep_non
    | rt d => exact fun v r => Af.exitF rs.len af s rs' r
    | bk => exact af.elim
    | ct => exact af.elim
  | exc c fs η' st' =>
    rw [e] at af
    intro σ' H' Z' φ' s rs' sl
    obtain ⟨psi, rfl, hn⟩ := s.pre
    have af2 : Af K (fun c d _ H => E c d H) Z φ H (exitX st.length c fs st') (GE K Q) := af
    unfold exitX at af2
    split at af2
    · rename_i d2 st2 e2
      obtain ⟨φ2, s2, rs2, _⟩ := exitI_ok rs.len s rs' rep_non e2
      exact af2 [] H' Z' φ2 s2 rs2 ⟨rfl, fun i d e => by simp at e⟩
    · exact af2.elim
  | stuck => rw [e] at af; exact af.elim
def bkN (ids : List Nat) (n : Nat) (i : Nat) : Nat := match ids[i]? with
  | some k => k
  | none => n + (i - ids.length)
def bkD (ids : List Nat) (n : Nat) : D → D
  | .fz p => .fz p
  | .cell i => .cell (bkN ids n i)
def bkF (ids : List Nat) (n : Nat) : List (Str × D) → List (Str × D)
  | [] => []
  | (k, d) :: fs => (k, bkD ids n d) :: bkF ids n fs
def bkC (ids : List Nat) (n : Nat) : Ct → Ct
  | .obj c fs => .obj c (bkF ids n fs)
  | .lsD xs => .lsD (xs.map (bkD ids n))
  | .tuD xs => .tuD (xs.map (bkD ids n))
  | .lst xs => .lst xs
  | .dct xs => .dct xs
  | .ldct xs => .ldct xs
  | .frz p => .frz p
def putAll (st : Sr) : List Nat → Sr → Sr
  | [], _ => st
  | _, [] => st
  | i :: is, c :: cs => putAll (st.set i c) is cs
def backS (ids : List Nat) (st st2 : Sr) : Sr := putAll st ids ((st2.take ids.length).map (bkC ids st.length)) ++ (st2.drop ids.length).map (bkC ids st.length)
def callI (F : DF) (ids : List Nat) (ds : List D) (η : Et) (st : Sr) : R (D × Sr) :=
  if ids.Nodup then match renA ids ds, subS ids st with
    | some ds1, some st1 => match F ds1 st1 with
      | .ok (d, st2) => if ids.length ≤ st2.length then .ok (bkD ids st.length d, backS ids st st2) else .stuck
      | .exc c fs _ st2 => if ids.length ≤ st2.length then .exc c fs η (backS ids st st2) else .stuck
      | .stuck => .stuck
    | _, _ => .stuck
  else .stuck
def callF (F : DF) (ds : List D) (η : Et) (st : Sr) : R (D × Sr) := callI F (reach st (cellsA ds)) ds η st
def dCall (F : DF) (g : DA) : DE := fun η st => (g η st).bind fun a => callF F a.1 η a.2
section
variable {K : PySem.W.Frag} {Z Z2 H H2 : Hp} {φ ψ χ : List Addr} {ids : List Nat}
theorem bkD_ok {d : D} {v : V} (at_ : AtIds φ ψ ids) (r : RepD K Z (ψ ++ χ) d v) : RepD K Z (φ ++ χ) (bkD ids φ.length d) v := by
  cases d with
  | fz p => exact r
  | cell i =>
    obtain ⟨a, h1, rfl⟩ := r
    refine ⟨a, ?_, rfl⟩
    unfold bkN
    cases q : ids[i]? with
    | some k =>
      obtain ⟨b, h2, h3⟩ := at_.2 i k q
      have hi : i < ψ.length := (List.getElem?_eq_some_iff.mp h3).1
      rw [List.getElem?_append_left hi, h3] at h1
      cases h1
      dsimp only
      rw [List.getElem?_append_left (List.getElem?_eq_some_iff.mp h2).1]
      exact h2
    | none =>
      have hi : ids.length ≤ i := List.getElem?_eq_none_iff.mp q
      rw [List.getElem?_append_right (by rw [at_.1]; exact hi), at_.1] at h1
      dsimp only
      rw [List.getElem?_append_right (by omega)]
      rw [show φ.length + (i - ids.length) - φ.length = i - ids.length by omega]
      exact h1
theorem bkF_ok (at_ : AtIds φ ψ ids) : ∀ {fs : List (Str × D)} {gs : List (Str × V)}, RepDF K Z (ψ ++ χ) fs gs → RepDF K Z (φ ++ χ) (bkF ids φ.length fs) gs
  | [], gs, r => r
  | (k, d) :: fs, gs, r => by
    obtain ⟨v, ws, rfl, r1, r2⟩ := r
    exact ⟨v, ws, rfl, bkD_ok at_ r1, bkF_ok at_ r2⟩
theorem bkA_ok (at_ : AtIds φ ψ ids) : ∀ {ds : List D} {vs : List V}, RepDs K Z (ψ ++ χ) ds vs → RepDs K Z (φ ++ χ) (ds.map (bkD ids φ.length)) vs
  | [], vs, r => r
  | d :: ds, vs, r => by
    obtain ⟨v, ws, rfl, r1, r2⟩ := r
    exact ⟨v, ws, rfl, bkD_ok at_ r1, bkA_ok at_ r2⟩
theorem bkC_ok {a : Addr} {c : Ct} (at_ : AtIds φ ψ ids) (r : RelC K Z (ψ ++ χ) H a c) : RelC K Z (φ ++ χ) H a (bkC ids φ.length c) := by
  cases c with
  | lst xs => exact r
  | dct xs => exact r
  | ldct xs => exact r
  | frz xs => exact r
  | obj c fs =>
    obtain ⟨hz, dx, gs, h1, h2⟩ := r
    exact ⟨hz, dx, gs, h1, bkF_ok at_ h2⟩
  | lsD xs =>
    obtain ⟨hz, gs, h1, h2⟩ := r
    exact ⟨hz, gs, h1, bkA_ok at_ h2⟩
  | tuD xs =>
    obtain ⟨hz, gs, h1, h2⟩ := r
    exact ⟨hz, gs, h1, bkA_ok at_ h2⟩
theorem putAll_len : ∀ {ids : List Nat} {cs st : Sr}, (putAll st ids cs).length = st.length
  | [], _, _ => by unfold putAll; rfl
  | _ :: _, [], _ => by unfold putAll; rfl
  | i :: is, c :: cs, st => by unfold putAll; rw [putAll_len]; simp
theorem putAll_get : ∀ {ids : List Nat} {cs st : Sr} {k : Nat}, ids.Nodup → ids.length = cs.length → k < st.length → (putAll st ids cs)[k]? = match idx k ids with | some j => cs[j]? | none => st[k]?
  | [], cs, st, k, _, _, _ => by unfold putAll idx; rfl
  | _ :: _, [], _, _, _, h, _ => by simp at h
  | i :: is, c :: cs, st, k, nd, hl, hk => by
    unfold putAll idx
    rw [putAll_get (List.nodup_cons.mp nd).2 (by simpa using hl) (by simpa using hk)]
    by_cases e : i = k
    · subst e
      rw [if_pos rfl]
      cases q : idx i is with
      | some j => exact absurd (List.mem_of_getElem? (idx_get q)) (List.nodup_cons.mp nd).1
      | none => simp [hk]
    · rw [if_neg e]
      cases q : idx k is with
      | some j => simp
      | none => simp [List.getElem?_set_ne e]
theorem idx_none : ∀ {ids : List Nat} {n : Nat}, idx n ids = none → n ∉ ids
  | [], _, _ => by simp
  | m :: ms, n, h => by
    unfold idx at h
    split at h
    · cases h
    · rename_i e
      cases q : idx n ms with
      | some k => rw [q] at h; cases h
      | none => simp only [List.mem_cons, not_or]; exact ⟨fun z => e z.symm, idx_none q⟩
theorem call_back {st st1 st2 : Sr} (rs : RS K Z φ st H) (nd : ids.Nodup) (at_ : AtIds φ ψ ids) (hl : ids.length ≤ st2.length) (s : Step Z ψ H Z2 (ψ ++ χ) H2) (rs2 : RS K Z2 (ψ ++ χ) st2 H2) :
    RS K Z2 (φ ++ χ) (backS ids st st2) H2 ∧ Step Z φ H Z2 (φ ++ χ) H2 := by
  have hψ : ∀ a ∈ ψ, a ∈ φ := fun a ha => by
    obtain ⟨j, hj⟩ := List.getElem?_of_mem ha
    have hjl : j < ids.length := by rw [← at_.1]; exact (List.getElem?_eq_some_iff.mp hj).1
    obtain ⟨b, h1, h2⟩ := at_.2 j _ (List.getElem?_eq_getElem hjl)
    rw [hj] at h2; cases h2
    exact List.mem_of_getElem? h1
  obtain ⟨χ', he, hn⟩ := s.pre
  obtain rfl := List.append_cancel_left he
  have hlen2 : χ.length = st2.length - ids.length := by have := rs2.len; rw [List.length_append, at_.1] at this; omega
  refine ⟨⟨rs2.same, ?_, ?_, fun i a c hi hc => ?_, rs2.tb, rs2.zd⟩, ⟨s.hz, ⟨χ, rfl, hn⟩, fun b o hb hnb ht => s.fr b o hb (fun z => hnb (hψ b z)) ht, fun b hb => ?_, s.up, s.lk⟩⟩
  · unfold backS
    rw [List.length_append, List.length_append, putAll_len, rs.len, List.length_map, List.length_drop, hlen2]
  · have nd2 := List.nodup_append.mp rs2.nd
    exact List.nodup_append.mpr ⟨rs.nd, nd2.2.1, fun x hx y hy => by
      rintro rfl
      obtain ⟨i, hi⟩ := List.getElem?_of_mem hx
      obtain ⟨c, _, r⟩ := rs.at_ hi
      obtain ⟨o, ho, hd⟩ := r.at2
      exact (hn x hy).no ho hd.1⟩
  · unfold backS at hc
    by_cases hil : i < φ.length
    · rw [List.getElem?_append_left hil] at hi
      rw [List.getElem?_append_left (by rw [putAll_len, ← rs.len]; exact hil), putAll_get nd (by simp; omega) (by rw [← rs.len]; exact hil)] at hc
      cases q : idx i ids with
      | some j =>
        rw [q] at hc
        dsimp only at hc
        have hj := idx_get q
        have hjl : j < ids.length := (List.getElem?_eq_some_iff.mp hj).1
        rw [List.getElem?_map, List.getElem?_take_of_lt hjl, ← rs.len] at hc
        obtain ⟨b, h1, h2⟩ := at_.2 j i hj
        rw [hi] at h1; cases h1
        cases q2 : st2[j]? with
        | none => rw [q2] at hc; cases hc
        | some c2 =>
          rw [q2] at hc; cases hc
          have hjψ : j < ψ.length := by rw [at_.1]; exact hjl
          exact bkC_ok at_ (rs2.cells j a c2 (by rw [List.getElem?_append_left hjψ]; exact h2) q2)
      | none =>
        rw [q] at hc
        dsimp only at hc
        have hni := idx_none q
        have rc := rs.cells i a c hi hc
        have haψ : a ∉ ψ := fun ha => by
          obtain ⟨j, hj⟩ := List.getElem?_of_mem ha
          have hjl : j < ids.length := by rw [← at_.1]; exact (List.getElem?_eq_some_iff.mp hj).1
          obtain ⟨b, h1, h2⟩ := at_.2 j _ (List.getElem?_eq_getElem hjl)
          rw [hj] at h2; cases h2
          have := RS.write.nodup_ix' rs.nd hi h1
          exact hni (this ▸ List.getElem_mem hjl)
        refine rc.keep s.hz ⟨χ, rfl⟩ (fun hf => ?_) fun o ho hd => s.fr a o ho haψ hd.1
        cases q3 : Z2 a with
        | none => rfl
        | some o =>
          exfalso
          rcases s.zn a (by rw [q3]; exact fun z => nomatch z) with z | z | z
          · exact z (rc.free hf)
          · obtain ⟨o', ho, hd⟩ := rc.at2; exact z.no ho hd.1
          · exact haψ z
    · rw [List.getElem?_append_right (by omega)] at hi
      rw [List.getElem?_append_right (by rw [putAll_len, ← rs.len]; omega), putAll_len, ← rs.len, List.getElem?_map, List.getElem?_drop] at hc
      cases q2 : st2[ids.length + (i - φ.length)]? with
      | none => rw [q2] at hc; cases hc
      | some c2 =>
        rw [q2] at hc; cases hc
        refine bkC_ok at_ (rs2.cells (ids.length + (i - φ.length)) a c2 ?_ q2)
        rw [List.getElem?_append_right (by rw [at_.1]; omega), at_.1, show ids.length + (i - φ.length) - ids.length = i - φ.length by omega]
        exact hi
  · rcases s.zn b hb with z | z | z
    · exact .inl z
    · exact .inr (.inl z)
    · exact .inr (.inr (hψ b z))
/-- a call's meaning gives the callee's promise -/
theorem call_sp {W : WX} {F : DF} {ds : List D} {vs : List V} {η : Et} {σ : St} {st : Sr} {Q : VK} (rs : RS K Z φ st H) (sl : Slots K Z φ η σ) (rd : RepDs K Z φ ds vs) (af : Af K W Z φ H (callF F ds η st) (GE K Q)) : spF K F vs H Q (WE W σ) := by
  unfold callF callI at af
  generalize reach st (cellsA ds) = ids at af
  split at af
  · rename_i nd
    split at af
    · rename_i ds1 st1 e1 e2
      obtain ⟨ψ, at_, rs1⟩ := subS_ok rs nd e2
      refine ⟨Z, ψ, st1, ds1, rs1, renA_ok at_ e1 rd, ?_⟩
      cases e : F ds1 st1 with
      | ok r =>
        obtain ⟨d, st2⟩ := r
        rw [e] at af
        dsimp only at af
        split at af
        · rename_i hl
          intro Z' φ' H' s rs2 v r
          obtain ⟨χ, rfl, _⟩ := id s.pre
          obtain ⟨q1, q2⟩ := call_back (st1 := st1) rs nd at_ hl s rs2
          exact af _ _ _ q2 q1 v (by rw [← rs.len]; exact bkD_ok at_ r)
        · exact af.elim
      | exc c fs η' st2 =>
        rw [e] at af
        dsimp only at af
        split at af
        · rename_i hl
          intro σ' H' Z' φ' s rs2 _
          obtain ⟨χ, rfl, _⟩ := id s.pre
          obtain ⟨q1, q2⟩ := call_back (st1 := st1) rs nd at_ hl s rs2
          exact af σ H' Z' _ q2 q1 (sl.mono q2)
        · exact af.elim
      | stuck => rw [e] at af; exact af.elim
    · exact af.elim
  · exact af.elim
end
section
variable {X : Cx} {W : WX} {k : Nat} {f : Addr} {fd : FuncData} {ps : List Str} {x : Str} {p pos : Pos} {e : Expr} {es : List Expr} {fs : DA} {F : DF}
/-- f(e, ..) -/
theorem de_call (tk : Takes X W) (Fo : FnOk X.prog X.w X.K X.mg X.base (L2.CX X.prog X.w) k f fd ps (spF X.K F)) (hr : Room k X.A) (hg : Gl X x) (hm : X.mg x = some (.ref f)) (hk : PySem.W.keepIn X.K (.ref f) = true) (hb : Binds X.K fd ps []) (ha : PA X (e :: es) (tA X.K W fs))
    (hdb : (x == ("__debug__" : Str)) = false := by decide)
    (he : starEach (e :: es) X.env = (false, eval e X.env) :: starEach es X.env := by rfl) (hpl : (backTo pos (starEach es X.env)).any (·.1) = false := by rfl) : PE X (.Call (.Name x p) (e :: es) [] pos) (tE X.K W (dCall F fs)) := by
  refine (pe_callS Fo hr hg hm hk hb (fun σ => passAt tk σ) ha hdb he hpl).to fun σ H Q h => ?_
  obtain ⟨Z, φ, η, st, rs, sl, af⟩ := h
  exact ⟨Z, φ, η, st, rs, sl, af.bind.mono fun a Z' φ' H' t g' rs' vs r => call_sp rs' (sl.mono t) r g'⟩
end
/-- THE RULE for a def: its body's meaning gives the def's -/
theorem fn_D {P : Program} {w : World} {K : PySem.W.Frag} {mg : Str → Option Value} {base : Heap} {x qual : Str} {params : Arguments} {body : List Stmt} {scope : Scope} {dvs : List V} {kws : List (Str × V)} {f : Addr} {fd : FuncData} {N ps : List Str} {k np n : Nat} {fr : Bool} {b : DS}
    (F : FunD K x qual params body scope dvs kws f fd) (S : FnScope N ps scope) (hps : ps.length = np) (hN : N.length = n)
    (hbody : ∀ (cdv : Value) (A : Around) (outer : List Env) (s : Shared) (H : Hp) (E : XK), Room k (cxOf (L2.CX P w) P w K mg base N qual scope f cdv A outer s H E).A →
      PassesOwn (model P w) (cxOf (L2.CX P w) P w K mg base N qual scope f cdv A outer s H E).A (cxOf (L2.CX P w) P w K mg base N qual scope f cdv A outer s H E).env (cxOf (L2.CX P w) P w K mg base N qual scope f cdv A outer s H E).xe →
      Takes (cxOf (L2.CX P w) P w K mg base N qual scope f cdv A outer s H E) (fun c d _ H => E c d H) →
      PSs (cxOf (L2.CX P w) P w K mg base N qual scope f cdv A outer s H E) body (tS K (fun c d _ H => E c d H) b)) : FnOk P w K mg base (L2.CX P w) (k + 1) f fd ps (spF K (runF np n fr b)) := by
  refine F.ok S (fun vs H Q E h => by rw [hps]; exact spF_len h) fun cdv A outer s H vs Q E hr h => ⟨_, hbody cdv A outer s H E hr (passes_of rfl) (takes_of rfl rfl rfl rfl), body_ok hN h⟩
end M
end
section
set_option Elab.async false
set_option linter.all false
set_option maxRecDepth 100000
set_option maxHeartbeats 0
namespace M
open PySem L2
/-- a def keeps its meaning F -/
structure Okd (P : Program) (w : World) (K : PySem.W.Frag) (mg : Str → Option Value) (base : Heap) (k : Nat) (p : Str × Option Str) (ps : List Str) (F : DF) : Prop where
  ex : ∃ fd, FnOk P w K mg base (L2.CX P w) k (He.fAd K p) fd ps (spF K F) ∧ Binds K fd ps []
  kp : PySem.W.keepIn K (.ref (He.fAd K p)) = true
section
variable {X : Cx} {W : WX} {k j : Nat} {ps : List Str} {x : Str} {p pos : Pos} {e : Expr} {es : List Expr} {fs : DA} {F : DF}
theorem de_callG (tk : Takes X W) (o : Okd X.prog X.w X.K X.mg X.base k (x, none) ps F) (hr : Room j X.A) (hm : X.mg x = some (.ref (He.ga X.K x))) (ha : PA X (e :: es) (tA X.K W fs)) (hk : k ≤ j := by decide) (hg : Gl X x := by rfl)
    (hdb : (x == ("__debug__" : Str)) = false := by decide)
    (he : starEach (e :: es) X.env = (false, eval e X.env) :: starEach es X.env := by rfl) (hpl : (backTo pos (starEach es X.env)).any (·.1) = false := by rfl) : PE X (.Call (.Name x p) (e :: es) [] pos) (tE X.K W (dCall F fs)) := by
  obtain ⟨fd, h1, h2⟩ := o.ex
  exact de_call tk h1 (hr.mono hk) hg hm o.kp h2 ha hdb he hpl
theorem okd_of {P : Program} {w : World} {K : PySem.W.Frag} {mg : Str → Option Value} {base : Heap} {d : He.DefD} {k : Nat} {N ps : List Str} {np n : Nat} {fr : Bool} {b : DS} (hd : d.dfl = []) (hkw : d.kwd = [])
    (h : ∃ fd, FunD K d.name d.qual d.params d.body d.scope (d.dvs K) (d.kws K) (He.fAd K d.at_) fd) (S : FnScope N ps d.scope) (hps : ps.length = np) (hN : N.length = n)
    (hb : ∀ (kV doc pm : Value) (an : Option Addr) (cdv ct : Value) (us : List Value), us.length = ps.length → bindArgs (PySem.W.fnOf d.name d.qual d.params d.body d.scope .none kV doc pm an cdv ct) ⟨us, []⟩ = pure (ps.zip us))
    (hbody : ∀ (f : Addr) (cdv : Value) (A : Around) (outer : List Env) (s : Shared) (H : Hp) (E : XK), Room k (cxOf (L2.CX P w) P w K mg base N d.qual d.scope f cdv A outer s H E).A →
      PassesOwn (model P w) (cxOf (L2.CX P w) P w K mg base N d.qual d.scope f cdv A outer s H E).A (cxOf (L2.CX P w) P w K mg base N d.qual d.scope f cdv A outer s H E).env (cxOf (L2.CX P w) P w K mg base N d.qual d.scope f cdv A outer s H E).xe →
      Takes (cxOf (L2.CX P w) P w K mg base N d.qual d.scope f cdv A outer s H E) (fun c d _ H => E c d H) →
      PSs (cxOf (L2.CX P w) P w K mg base N d.qual d.scope f cdv A outer s H E) d.body (tS K (fun c d _ H => E c d H) b)) :
    Okd P w K mg base (k + 1) d.at_ ps (runF np n fr b) := by
  obtain ⟨fd, F⟩ := h
  refine ⟨⟨fd, fn_D F S hps hN fun cdv A outer s H E hr hp tk => hbody _ cdv A outer s H E hr hp tk, ?_⟩, F.kp⟩
  have F' : FunD K d.name d.qual d.params d.body d.scope [] (d.kws K) (He.fAd K d.at_) fd := by
    have e : d.dvs K = [] := by unfold He.DefD.dvs; rw [hd]; rfl
    rw [← e]; exact F
  exact F'.bindsN hb
end
theorem bt_len : bootBuiltins "len" = some (.builtin "len") := by decide +kernel
theorem bt_abs : bootBuiltins "abs" = some (.builtin "abs") := by decide +kernel
theorem bt_int : bootBuiltins "int" = some (.type "int") := by decide +kernel
theorem bt_list : bootBuiltins "list" = some (.type "list") := by decide +kernel
theorem bt_tuple : bootBuiltins "tuple" = some (.type "tuple") := by decide +kernel
end M
end
section
set_option Elab.async false
set_option linter.all false
set_option maxRecDepth 100000
set_option maxHeartbeats 0
namespace M
open PySem L2
def dYes : DT := fun _ st => .ok (true, st)
def lcD (i : Nat) (t : DT) (fe : DE) (η : Et) : List P → List P → Sr → R (List P × Sr)
  | [], acc, st => .ok (acc, st)
  | x :: xs, acc, st => (t (η.set i (some (.fz x))) st).bind fun a => if a.1 = true then (fe (η.set i (some (.fz x))) a.2).bind fun b => match toP b.2 b.1 with
      | some (p, st2) => if acc.length < szL then lcD i t fe η xs (acc ++ [p]) st2 else .stuck
      | none => .stuck
    else lcD i t fe η xs acc a.2
/-- an exception inside is not carried -/
def R.calm {α : Type} : R α → R α
  | .exc _ _ _ _ => .stuck
  | r => r
def lcF (r : R (List P × Sr)) : R (D × Sr) := r.calm.bind fun a => .ok (.cell a.2.length, a.2 ++ [.lst a.1])
abbrev W0 : WX := fun _ _ _ _ => False
section
variable {K : PySem.W.Frag} {Z H : Hp} {φ : List Addr}
theorem RS.adopt {st : Sr} {p : Addr} {xs : List P} {vs : List V} (rs : RS K Z φ st H) (h1 : p ∉ φ) (h2 : Z p = none) (h3 : H p = some (.lst vs)) (h4 : Reps K Z xs vs) : RS K Z (φ ++ [p]) (st ++ [.lst xs]) H := by
  refine ⟨rs.same, by simp [rs.len], ?_, fun i b c' hi hc' => ?_, rs.tb, rs.zd⟩
  · exact List.nodup_append.mpr ⟨rs.nd, by simp, fun x hx y hy => by simp at hy; subst hy; rintro rfl; exact h1 hx⟩
  · by_cases hl : i < φ.length
    · rw [List.getElem?_append_left hl] at hi
      rw [List.getElem?_append_left (by rw [← rs.len]; exact hl)] at hc'
      exact (rs.cells i b c' hi hc').keep (Same.refl _) ⟨[p], rfl⟩ (fun q => (rs.cells i b c' hi hc').free q) fun u hu _ => hu
    · rw [List.getElem?_append_right (by omega)] at hi
      rw [List.getElem?_append_right (by rw [← rs.len]; omega), ← rs.len] at hc'
      cases hk : i - φ.length with
      | zero => rw [hk] at hi hc'; simp at hi hc'; subst hi hc'; exact ⟨h2, vs, h3, h4⟩
      | succ k => rw [hk] at hi; simp at hi
/-- the list that is being made, beside the store -/
structure Mk1 (K : PySem.W.Frag) (Z : Hp) (φ : List Addr) (H : Hp) (p : Addr) (acc : List P) : Prop where
  out : p ∉ φ
  zn : Z p = none
  at_ : ∃ vs, H p = some (.lst vs) ∧ Reps K Z acc vs
theorem Mk1.step {Z' H' : Hp} {φ' : List Addr} {p : Addr} {acc : List P} (m : Mk1 K Z φ H p acc) (s : Step Z φ H Z' φ' H') : Mk1 K Z' φ' H' p acc := by
  obtain ⟨vs, h1, h2⟩ := m.at_
  refine ⟨fun hm => ?_, ?_, vs, s.fr p _ h1 m.out dat_lst.1, h2.mono s.hz⟩
  · obtain ⟨psi, rfl, hn⟩ := s.pre
    rcases List.mem_append.mp hm with hm | hm
    · exact m.out hm
    · exact (hn p hm).no h1 dat_lst.1
  · cases q : Z' p with
    | none => rfl
    | some o =>
      exfalso
      rcases s.zn p (by rw [q]; exact fun z => nomatch z) with z | z | z
      · exact z m.zn
      · exact z.no h1 dat_lst.1
      · exact m.out z
/-- one more item -/
theorem Mk1.push {st : Sr} {p : Addr} {acc : List P} {x : P} {v : V} {vs : List V} (m : Mk1 K Z φ H p acc) (rs : RS K Z φ st H) (h1 : H p = some (.lst vs)) (r : Rep K Z x v) :
    RS K Z φ st (upd H p (.lst (vs ++ [v]))) ∧ Mk1 K Z φ (upd H p (.lst (vs ++ [v]))) p (acc ++ [x]) := by
  obtain ⟨ws, h2, h3⟩ := m.at_
  rw [h1] at h2; cases h2
  refine ⟨⟨fun b u hb => ?_, rs.len, rs.nd, fun i b c hi hc => ?_, tabs_upd rs.tb (fun u hu => by rw [h1] at hu; cases hu; exact dat_lst), rs.zd⟩, m.out, m.zn, _, upd_same, h3.append (.one r)⟩
  · rw [upd_ne (by rintro rfl; rw [m.zn] at hb; cases hb)]; exact rs.same b u hb
  · have nb : b ≠ p := by rintro rfl; exact m.out (List.mem_of_getElem? hi)
    exact (rs.cells i b c hi hc).keep (Same.refl _) ⟨[], by simp⟩ (fun q => (rs.cells i b c hi hc).free q) fun u hu _ => by rw [upd_ne nb]; exact hu
end
section
variable {X : Cx} {W : WX}
def LcI (K : PySem.W.Frag) (W : WX) (i : Nat) (t : DT) (fe : DE) (η : Et) (Q : VK) (σ : St) (Z0 : Hp) (φ0 : List Addr) (H0 : Hp) (p : Addr) (Ex : Hp → Prop) (ys : List P) (H : Hp) : Prop :=
  ∃ Z φ st acc, RS K Z φ st H ∧ Slots K Z φ η σ ∧ Ex Z ∧ Mk1 K Z φ H p acc ∧ Step Z0 φ0 H0 Z φ H ∧ Af K W Z0 φ0 H0 (lcF (lcD i t fe η ys acc st)) (GE K Q)
variable {K : PySem.W.Frag} {i : Nat} {t : DT} {fe : DE} {η : Et} {Q : VK} {σ : St} {Z0 H0 : Hp} {φ0 : List Addr} {p : Addr} {Ex : Hp → Prop}
theorem LcI.done {H : Hp} (h0 : H0 p = none) (h : LcI K W i t fe η Q σ Z0 φ0 H0 p Ex [] H) : Q (.ref p) H := by
  obtain ⟨Z, φ, st, acc, rs, sl, ex, m, s, af⟩ := h
  obtain ⟨vs, h1, h2⟩ := m.at_
  have af2 : Af K W Z0 φ0 H0 (.ok (.cell st.length, st ++ [.lst acc])) (GE K Q) := af
  obtain ⟨psi, rfl, hn⟩ := s.pre
  refine af2 Z (φ0 ++ psi ++ [p]) H ⟨s.hz, ⟨psi ++ [p], by simp, fun a ha => ?_⟩, s.fr, s.zn, s.up, s.lk⟩ (rs.adopt m.out m.zn h1 h2) _ ⟨p, by rw [← rs.len]; simp, rfl⟩
  rcases List.mem_append.mp ha with ha | ha
  · exact hn a ha
  · simp at ha; subst ha; exact .of h0
theorem lcF_some {r : R (List P × Sr)} {Z : Hp} {φ : List Addr} {H : Hp} (h : Af K W Z φ H (lcF r) (GE K Q)) : ∃ a, r = .ok a := by
  cases r with
  | ok a => exact ⟨a, rfl⟩
  | exc => exact h.elim
  | stuck => exact h.elim
theorem LcI.turn (h0 : H0 p = none) (hm : ∀ Z Z', Same Z Z' → Ex Z → Ex Z') {x : P} {ys : List P} {H : Hp} {v : V} (h : LcI K W i t fe η Q σ Z0 φ0 H0 p Ex (x :: ys) H) (hv : ∀ Z, Same Z H → Ex Z → Rep K Z x v) :
    tT K W0 t (σ.set i (some v)) H (fun b H3 => if b = true then tE K W0 fe (σ.set i (some v)) H3 (fun y H4 => ∃ acc, H4 p = some (.lst acc) ∧ acc.length < sizeLine ∧ LcI K W i t fe η Q σ Z0 φ0 H0 p Ex ys (upd H4 p (.lst (acc ++ [y])))) else LcI K W i t fe η Q σ Z0 φ0 H0 p Ex ys H3) := by
  obtain ⟨Z, φ, st, acc, rs, sl, ex, m, s, af⟩ := h
  have slv : Slots K Z φ (η.set i (some (.fz x))) (σ.set i (some v)) := sl.set (hv Z rs.same ex)
  refine ⟨Z, φ, _, st, rs, slv, ?_⟩
  obtain ⟨⟨acc', st'⟩, he⟩ := lcF_some af
  have he0 := he
  unfold lcD at he
  cases e1 : t (η.set i (some (.fz x))) st with
  | exc => rw [e1] at he; cases he
  | stuck => rw [e1] at he; cases he
  | ok a =>
    rw [e1] at he
    intro Z1 φ1 H1 s1 rs1
    have he1 : (if a.1 = true then (fe (η.set i (some (.fz x))) a.2).bind fun b => match toP b.2 b.1 with
      | some (p, st2) => if acc.length < szL then lcD i t fe η ys (acc ++ [p]) st2 else .stuck
      | none => .stuck
    else lcD i t fe η ys acc a.2) = .ok (acc', st') := he
    have m1 := m.step s1
    by_cases ha : a.1 = true
    · rw [if_pos ha] at he1 ⊢
      refine ⟨Z1, φ1, _, a.2, rs1, slv.mono s1, ?_⟩
      cases e2 : fe (η.set i (some (.fz x))) a.2 with
      | exc => rw [e2] at he1; cases he1
      | stuck => rw [e2] at he1; cases he1
      | ok b =>
        rw [e2] at he1
        intro Z2 φ2 H2 s2 rs2 y ry
        have he2 : (match toP b.2 b.1 with
          | some (p, st2) => if acc.length < szL then lcD i t fe η ys (acc ++ [p]) st2 else .stuck
          | none => .stuck) = .ok (acc', st') := he1
        have m2 := m1.step s2
        obtain ⟨vs, h1, h2⟩ := m2.at_
        cases e3 : toP b.2 b.1 with
        | none => rw [e3] at he2; cases he2
        | some pr =>
          obtain ⟨q, st3⟩ := pr
          rw [e3] at he2
          dsimp only at he2
          split at he2
          · rename_i hz
            obtain ⟨Z3, f3, rs3, r3⟩ := toP_ok rs2 e3 ry
            have m3 := m2.step f3.step
            obtain ⟨rs4, m4⟩ := m3.push rs3 h1 r3
            have s3 := ((s.trans s1).trans s2).trans f3.step
            refine ⟨vs, h1, by rw [← h2.length, ← szL_eq]; exact hz, Z3, φ2, st3, acc ++ [q], rs4, ((sl.mono s1).mono s2).mono f3.step, hm _ _ f3.hz (hm _ _ s2.hz (hm _ _ s1.hz ex)), m4, ?_, ?_⟩
            · refine ⟨s3.hz, s3.pre, fun b o hb hn ht => ?_, s3.zn, fun b hb => ?_, fun b q u hb => by rw [upd_ne (by rintro rfl; rw [h0] at hb; cases hb)]; exact s3.lk b q u hb⟩
              · rw [upd_ne]
                · exact s3.fr b o hb hn ht
                · rintro rfl
                  rw [h0] at hb; cases hb
              · by_cases q : b = p
                · subst q; exact .of h0
                · exact s3.up b fun o ho => hb o (by rw [upd_ne q]; exact ho)
            · rw [he2]; rw [he0] at af; exact af
          · cases he2
    · rw [if_neg ha] at he1 ⊢
      exact ⟨Z1, φ1, a.2, acc, rs1, sl.mono s1, hm _ _ s1.hz ex, m1, s.trans s1, by rw [he1]; rw [he0] at af; exact af⟩
end
section
variable {X : Cx} {W : WX} {elt iter a : Expr} {scope : Scope} {x : Str} {i : Nat} {tpos pos p2 : Pos} {ifs : List Expr} {f fe : DE} {fs : DA} {t : DT}
theorem dts_nil : PTs X [] (tT X.K W dYes) := ⟨fun pins s σ H Q I ⟨Z, φ, η, st, rs, sl, af⟩ => pts_nil.run pins s σ H Q I (af.hereT rs)⟩
theorem dts_one {c : Expr} (h : PT X c (tT X.K W t)) : PTs X [c] (tT X.K W t) := pts_one h
theorem wipe1 (σ : St) (i : Nat) (v : V) : wipe ((wipe σ [i]).set i (some v)) [i] = wipe σ [i] := by
  show (((σ.set i none).set i (some v)).set i none) = σ.set i none
  rw [List.set_set, List.set_set]
theorem wipe1s (σ : St) (i : Nat) (v : V) : (wipe σ [i]).set i (some v) = σ.set i (some v) := by
  show ((σ.set i none).set i (some v)) = σ.set i (some v)
  rw [List.set_set]
theorem dAsg_to {j : Nat} {g : DE} {D : Ends} {σ : St} {H : Hp} (hh : tS X.K W (dAsg g (gNm j)) D σ H) : tE X.K W g σ H (fun x H1 => gName j x σ H1 D.nx) := by
  obtain ⟨Z, φ, η, st, rs, sl, af⟩ := hh
  exact ⟨Z, φ, η, st, rs, sl, af.bind.mono fun a Z' φ' H' t g' rs' v r => g' _ _ _ .refl rs' _ ((sl.mono t).set r)⟩
end
end M
end
section
set_option Elab.async false
set_option linter.all false
set_option maxRecDepth 100000
set_option maxHeartbeats 0
namespace M
open PySem L2
end M
end
section
set_option Elab.async false
set_option linter.all false
set_option maxRecDepth 100000
set_option maxHeartbeats 0
namespace M
open PySem L2
structure PEa (X : Cx) (c : Code) (e : Expr) (t : TE) : Prop where
  run : ∀ (pins : List (Addr × Obj)) (s : Shared) (σ : St) (H : Hp) (Q : VK), Inv X pins σ H s → t σ H Q → _root_.PySem.wpAt (model X.prog X.w) X.A c (eval e X.env) (EP X pins σ Q) X.xe s
structure PSa (X : Cx) (c : Code) (e : Stmt) (t : TS) : Prop where
  run : ∀ (pins : List (Addr × Obj)) (s : Shared) (σ : St) (H : Hp) (D : Ends), Inv X pins σ H s → t D σ H → _root_.PySem.wpAt (model X.prog X.w) X.A c (exec e X.env) (SP X pins D) X.xe s
structure PSsa (X : Cx) (c : Code) (e : List Stmt) (t : TS) : Prop where
  run : ∀ (pins : List (Addr × Obj)) (s : Shared) (σ : St) (H : Hp) (D : Ends), Inv X pins σ H s → t D σ H → _root_.PySem.wpAt (model X.prog X.w) X.A c (execs e X.env) (SP X pins D) X.xe s
section
variable {X : Cx} {W : WX} {c : Code} {e : Expr} {st : Stmt} {rest : List Stmt} {pos : Pos} {t t' : TE} {u u' : TS}
theorem PEa.of (h : PE X e t) : PEa X c e t := ⟨fun pins s σ H Q I q => _root_.PySem.wpAt_of_wpAny (h.run pins s σ H Q I q)⟩
theorem PSa.of (h : PS X st u) : PSa X c st u := ⟨fun pins s σ H Q I q => _root_.PySem.wpAt_of_wpAny (h.run pins s σ H Q I q)⟩
theorem PSsa.of (h : PSs X rest u) : PSsa X c rest u := ⟨fun pins s σ H Q I q => _root_.PySem.wpAt_of_wpAny (h.run pins s σ H Q I q)⟩
theorem PEa.to (h : PEa X c e t) (i : ∀ σ H Q, t' σ H Q → t σ H Q) : PEa X c e t' := ⟨fun pins s σ H Q I q => h.run pins s σ H Q I (i σ H Q q)⟩
theorem PSa.to (h : PSa X c st u) (i : ∀ D σ H, u' D σ H → u D σ H) : PSa X c st u' := ⟨fun pins s σ H D I q => h.run pins s σ H D I (i D σ H q)⟩
theorem PSsa.to (h : PSsa X c rest u) (i : ∀ D σ H, u' D σ H → u D σ H) : PSsa X c rest u' := ⟨fun pins s σ H D I q => h.run pins s σ H D I (i D σ H q)⟩
end
end M
end
section
set_option Elab.async false
set_option linter.all false
set_option maxRecDepth 100000
set_option maxHeartbeats 0
namespace M
open PySem L2
structure SupK (K : PySem.W.Frag) (P : Program) (mg : Str → Option Value) (f cda cc D : Addr) (par : Str) : Prop where
  fn : ∃ oc od fd osl ar, K.lookup f = some ⟨oc, od, .func fd, osl⟩ ∧ (fd.params.posonlyargs ++ fd.params.args).head? = some ar ∧ ar.arg = par
  code : ∃ ccl cdd vs ccs file tf, K.lookup cda = some ⟨ccl, cdd, .fields vs, ccs⟩ ∧ vs[2]? = some (.str file tf) ∧ ((P.main.file : Str) == file) = true
  cell : ∃ cl cld csl, K.lookup cc = some ⟨cl, cld, .cell (some (.ref D)), csl⟩
  cls : ∃ cd, PySem.W.clsIn K D = some cd
  opq : PySem.W.nsIn K cStatics "thirdparty.any" = some none
  top : (P.main.scope.names.lookup ("super" : Str)).isSome = false
  free : mg "super" = none
theorem bt_super : bootBuiltins "super" = some (.type "super") := by decide +kernel
def clsOf (st : Sr) : D → Option Str
  | .fz (.obj c _) => some c
  | .cell n => match st[n]? with
    | some (.obj c _) => some c
    | some (.frz (.obj c _)) => some c
    | _ => none
  | _ => none
theorem clsOf_ok {K : PySem.W.Frag} {Z H : Hp} {φ : List Addr} {st : Sr} {d : D} {c : Str} {v : V} (rs : RS K Z φ st H) (e : clsOf st d = some c) (r : RepD K Z φ d v) : ∃ x dx gs, v = .ref x ∧ H x = some (.ins (He.ga K c) dx gs) := by
  have fzc : ∀ {c' : Str} {fs : List (Str × P)} {v : V}, Rep K Z (.obj c' fs) v → ∃ x dx gs, v = .ref x ∧ H x = some (.ins (He.ga K c') dx gs) := fun {c' fs v} h => by
    rw [Rep] at h
    obtain ⟨a, dx, gs, rfl, h2, _⟩ := h
    exact ⟨a, dx, gs, rfl, rs.same _ _ h2⟩
  cases d with
  | fz p =>
    cases p with
    | obj c' fs => cases e; exact fzc r
    | _ => cases e
  | cell n =>
    obtain ⟨a, h1, rfl⟩ := r
    obtain ⟨ct, hc, rc⟩ := rs.at_ h1
    have e' : (match st[n]? with
      | some (.obj c _) => some c
      | some (.frz (.obj c _)) => some c
      | _ => none) = some c := e
    rw [hc] at e'
    cases ct with
    | obj c' fs => cases e'; obtain ⟨_, dx, gs, h2, _⟩ := rc; exact ⟨a, dx, gs, rfl, h2⟩
    | frz p =>
      cases p with
      | obj c' fs => cases e'; exact fzc rc.1
      | _ => cases e'
    | lst xs => cases e'
    | dct xs => cases e'
    | lsD xs => cases e'
    | tuD xs => cases e'
    | ldct xs => cases e'
def look1 {α : Type} (c : Str) : List (Str × α) → Option α
  | [] => none
  | (x, F) :: r => if x = c then some F else look1 c r
theorem look1_mem {α : Type} {c : Str} {F : α} : ∀ {l : List (Str × α)}, look1 c l = some F → (c, F) ∈ l
  | (x, G) :: r, h => by
    unfold look1 at h
    split at h
    · rename_i e; cases h; subst e; exact List.mem_cons_self
    · exact List.mem_cons_of_mem _ (look1_mem h)
end M
end
section
set_option Elab.async false
set_option linter.all false
set_option maxRecDepth 100000
set_option maxHeartbeats 0
namespace M
open PySem PySem.Spec PyProof.Rows L2
/-- where the code and the cell of a method stand -/
structure FunC (K : PySem.W.Frag) (P : Program) (mg : Str → Option Value) (x qual : Str) (params : Arguments) (body : List Stmt) (scope : Scope) (par : Str) (D f : Addr) (fd : FuncData) (cda cc : Addr) : Prop where
  ex : ∃ (oc : Value) (od : Option Addr) (kV doc pm : Value) (an : Option Addr) (ct : Value) (osl : Array (Option Value)),
    fd = PySem.W.fnX x qual params body scope [("__class__", cc)] .none kV doc pm an (.ref cda) ct ∧ K.lookup f = some ⟨oc, od, .func fd, osl⟩ ∧ PySem.W.codeIn K (.ref cda) qual = true
  sup : SupK K P mg f cda cc D par
  kp : PySem.W.keepIn K (.ref f) = true
end M
end
section
set_option Elab.async false
set_option linter.all false
set_option maxRecDepth 100000
set_option maxHeartbeats 0
namespace M
open PySem PySem.Spec PyProof.Rows L2
end M
end
section
set_option Elab.async false
set_option linter.all false
set_option maxRecDepth 100000
set_option maxHeartbeats 0
namespace M
open PySem PySem.Spec PyProof.Rows L2
end M
end
section
set_option Elab.async false
set_option linter.all false
set_option maxRecDepth 100000
set_option maxHeartbeats 0
namespace M
open PySem PySem.Spec PyProof.Rows L2
def intsP : List P → Option (List Int)
  | [] => some []
  | .int i :: r => match intsP r with
    | some is => some (i :: is)
    | none => none
  | _ => none
theorem intsP_eq : ∀ {xs : List P} {is : List Int}, intsP xs = some is → xs = is.map P.int
  | [], is, h => by cases h; rfl
  | .int i :: r, is, h => by
    unfold intsP at h
    split at h
    · rename_i js e; cases h; rw [List.map_cons, ← intsP_eq e]
    · cases h
  | .non :: _, _, h => by cases h
  | .bl _ :: _, _, h => by cases h
  | .str _ :: _, _, h => by cases h
  | .tup _ :: _, _, h => by cases h
  | .lst _ :: _, _, h => by cases h
  | .rol _ :: _, _, h => by cases h
  | .dct _ :: _, _, h => by cases h
  | .obj _ _ :: _, _, h => by cases h
  | .cls _ :: _, _, h => by cases h
theorem intsP_map : ∀ (is : List Int), intsP (is.map P.int) = some is
  | [] => rfl
  | i :: r => by rw [List.map_cons]; unfold intsP; rw [intsP_map r]
theorem reps_ints {K : PySem.W.Frag} {Z : Hp} : ∀ {is : List Int} {vs : List V}, Reps K Z (is.map P.int) vs → vs = is.map V.int
  | [], vs, h => by rw [List.map_nil, Reps] at h; exact h
  | i :: r, vs, h => by
    rw [List.map_cons, Reps] at h
    obtain ⟨v, ws, rfl, h1, h2⟩ := h
    rw [Rep] at h1
    rw [List.map_cons, h1, reps_ints h2]
theorem ints_reps {K : PySem.W.Frag} {Z : Hp} : ∀ (is : List Int), Reps K Z (is.map P.int) (is.map V.int)
  | [] => Reps.nil
  | i :: r => Reps.cons (by rw [Rep]) (ints_reps r)
def keyI (ws : List P) (i : Int) : Int := match ws[i.toNat]? with
  | some (.int k) => k
  | _ => 0
def lstP' : P → Option (List P)
  | .lst xs => some xs
  | .rol xs => some xs
  | _ => none
theorem each_ints : ∀ {is : List Int} {us : List Value}, Vals (is.map V.int) us → PySem.W.EachIs (fun (v : Value) (i : Int) => ∃ t, v = .int i t) us is
  | [], us, h => by cases h; exact .nil
  | i :: r, us, h => by
    cases h with
    | cons h1 h2 => exact .cons h1 (each_ints h2)
theorem ints_each : ∀ {is : List Int} {us : List Value}, PySem.W.EachIs (fun (v : Value) (i : Int) => ∃ t, v = .int i t) us is → Vals (is.map V.int) us
  | _, _, .nil => .nil
  | _, _, .cons h1 h2 => .cons h1 (ints_each h2)
end M
end
section
set_option Elab.async false
set_option linter.all false
set_option maxRecDepth 100000
set_option maxHeartbeats 0
namespace M
open PySem PySem.Spec PyProof.Rows L2
end M
end
section
set_option Elab.async false
set_option linter.all false
set_option maxRecDepth 100000
set_option maxHeartbeats 0
namespace M
open PySem L2
/-- one more object that belongs to none of the values -/
theorem RS.more {K : PySem.W.Frag} {Z H : Hp} {φ : List Addr} {st : Sr} {a : Addr} {o : HO} (h : RS K Z φ st H) (ha : H a = none) : RS K Z φ st (upd H a o) ∧ Step Z φ H Z φ (upd H a o) := by
  have hz : Z a = none := h.same.free ha
  have na : a ∉ φ := fun hm => by obtain ⟨u, hu⟩ := h.some_ hm; rw [ha] at hu; cases hu
  refine ⟨⟨fun b u hb => ?_, h.len, h.nd, fun i b c' hi hc' => ?_, tabs_upd h.tb (fun u hu => by rw [ha] at hu; cases hu), h.zd⟩, ⟨Same.refl _, ⟨[], by simp, by simp⟩, fun b u hb hn _ => ?_, fun b hb => .inl hb, fun b hb => ?_, fun b q u hb => by rw [upd_ne (by rintro rfl; rw [ha] at hb; cases hb)]; exact hb⟩⟩
  · rw [upd_ne (by rintro rfl; rw [hz] at hb; cases hb)]; exact h.same b u hb
  · have nb : b ≠ a := by rintro rfl; exact na (List.mem_of_getElem? hi)
    exact (h.cells i b c' hi hc').keep (Same.refl _) ⟨[], by simp⟩ (fun q => (h.cells i b c' hi hc').free q) fun u hu _ => by rw [upd_ne nb]; exact hu
  · rw [upd_ne (by rintro rfl; rw [ha] at hb; cases hb)]; exact hb
  · by_cases q : b = a
    · subst q; exact .of ha
    · exact fun o ho => hb o (by rw [upd_ne q]; exact ho)
section
variable {X : Cx} {W : WX} {x c : Str} {p pos apos : Pos} {e o : Expr} {es : List Expr} {f : DE} {fs : DA} {k : Nat} {ps : List Str} {m : Str}
def noF {α : Type} (m : Str) : List (Str × α) → Bool
  | [] => true
  | (k, _) :: r => !(m == k) && noF m r
theorem noF_F {K : PySem.W.Frag} {Z : Hp} {m : Str} : ∀ {fs : List (Str × P)} {gs : List (Str × V)}, noF m fs = true → RepF K Z fs gs → gs.lookup m = none
  | [], gs, _, h => by rw [RepF] at h; subst h; rfl
  | (k, p) :: r, gs, e, h => by
    rw [RepF] at h
    obtain ⟨v, ws, rfl, _, h2⟩ := h
    unfold noF at e
    rw [Bool.and_eq_true, Bool.not_eq_true'] at e
    rw [List.lookup_cons, e.1]
    exact noF_F e.2 h2
theorem noF_D {K : PySem.W.Frag} {Z : Hp} {φ : List Addr} {m : Str} : ∀ {fs : List (Str × D)} {gs : List (Str × V)}, noF m fs = true → RepDF K Z φ fs gs → gs.lookup m = none
  | [], gs, _, h => by cases h; rfl
  | (k, p) :: r, gs, e, h => by
    obtain ⟨v, ws, rfl, _, h2⟩ := h
    unfold noF at e
    rw [Bool.and_eq_true, Bool.not_eq_true'] at e
    rw [List.lookup_cons, e.1]
    exact noF_D e.2 h2
/-- the class of an instance that has no attribute m of its own -/
def clsM (m : Str) (st : Sr) : D → Option Str
  | .fz (.obj c fs) => if noF m fs then some c else none
  | .cell n => match st[n]? with
    | some (.obj c fs) => if noF m fs then some c else none
    | some (.frz (.obj c fs)) => if noF m fs then some c else none
    | _ => none
  | _ => none
theorem clsM_ok {K : PySem.W.Frag} {Z H : Hp} {φ : List Addr} {st : Sr} {d : D} {c m : Str} {v : V} (rs : RS K Z φ st H) (e : clsM m st d = some c) (r : RepD K Z φ d v) : ∃ x dx gs, v = .ref x ∧ H x = some (.ins (He.ga K c) dx gs) ∧ gs.lookup m = none := by
  have fzc : ∀ {c' : Str} {fs : List (Str × P)} {v : V}, noF m fs = true → Rep K Z (.obj c' fs) v → ∃ x dx gs, v = .ref x ∧ H x = some (.ins (He.ga K c') dx gs) ∧ gs.lookup m = none := fun {c' fs v} hn h => by
    rw [Rep] at h
    obtain ⟨a, dx, gs, rfl, h2, h3⟩ := h
    exact ⟨a, dx, gs, rfl, rs.same _ _ h2, noF_F hn h3⟩
  cases d with
  | fz p =>
    cases p with
    | obj c' fs =>
      have e' : (if noF m fs then some c' else none) = some c := e
      split at e'
      · rename_i hn; cases e'; exact fzc hn r
      · cases e'
    | _ => cases e
  | cell n =>
    obtain ⟨a, h1, rfl⟩ := r
    obtain ⟨ct, hc, rc⟩ := rs.at_ h1
    have e' : (match st[n]? with
      | some (.obj c fs) => if noF m fs then some c else none
      | some (.frz (.obj c fs)) => if noF m fs then some c else none
      | _ => none) = some c := e
    rw [hc] at e'
    cases ct with
    | obj c' fs =>
      dsimp only at e'
      split at e'
      · rename_i hn; cases e'; obtain ⟨_, dx, gs, h2, h3⟩ := rc; exact ⟨a, dx, gs, rfl, h2, noF_D hn h3⟩
      · cases e'
    | frz p =>
      cases p with
      | obj c' fs =>
        dsimp only at e'
        split at e'
        · rename_i hn; cases e'; exact fzc hn rc.1
        · cases e'
      | _ => cases e'
    | lst xs => cases e'
    | dct xs => cases e'
    | lsD xs => cases e'
    | tuD xs => cases e'
    | ldct xs => cases e'
def dMeth (m : Str) (tab : List (Str × DF)) (f : DE) (g : DA) : DE := fun η st => (f η st).bind fun a => match (clsM m a.2 a.1).bind fun c => look1 c tab with
  | some F => (g η a.2).bind fun b => callF F (a.1 :: b.1) η b.2
  | none => .stuck
/-- what a class's method is -/
def MethT (P : Program) (w : World) (K : PySem.W.Frag) (mg : Str → Option Value) (base : Heap) (k : Nat) (m : Str) (ps : List Str) (c : Str) (F : DF) : Prop :=
  ∃ f2 fd, Cls K (He.ga K c) ∧ Meth K (He.ga K c) m f2 ∧ FnOk P w K mg base (L2.CX P w) k f2 fd ps (spF K F) ∧ Binds K fd ps []
theorem de_meth {tab : List (Str × DF)} {pl : Sem Bool} {j : Nat} (tk : Takes X W) (hT : ∀ c F, (c, F) ∈ tab → MethT X.prog X.w X.K X.mg X.base k m ps c F) (hr : Room j X.A) (he : PE X o (tE X.K W f)) (ha : PA X (e :: es) (tA X.K W fs)) (hk : k ≤ j := by decide)
    (hst : starEach (e :: es) X.env = (false, eval e X.env) :: starEach es X.env := by rfl) (hpl : (backTo pos (starEach es X.env)).any (·.1) = false := by rfl)
    (ht : eval (.Call (.Attribute o m apos) (e :: es) [] pos) X.env = (do
      let ov ← eval o X.env
      standAt apos.atName
      let (f, first) ← holding [ov] (getMethod ov m pl)
      callWith pos f first (backTo pos (starEach (e :: es) X.env)) (backToKw pos (keywordEach [] X.env))) := by rfl) :
    PE X (.Call (.Attribute o m apos) (e :: es) [] pos) (tE X.K W (dMeth m tab f fs)) := by
  refine ⟨fun pins s σ H Q I h => ?_⟩
  obtain ⟨Z, φ, η, st, rs, sl, af⟩ := h
  refine PySem.W.methodCall_KW (pl := pl) (thn (he.run pins s σ H (fun v H1 => ∃ d Z φ st, RS X.K Z φ st H1 ∧ Slots X.K Z φ η σ ∧ RepD X.K Z φ d v ∧ Af X.K W Z φ H1 (match (clsM m st d).bind fun c => look1 c tab with
    | some F => (fs η st).bind fun b => callF F (d :: b.1) η b.2
    | none => .stuck) (GE X.K Q)) I ⟨Z, φ, η, st, rs, sl, af.bind.mono fun a Z' φ' H' t g' rs' v r => ⟨a.1, Z', φ', a.2, rs', sl.mono t, r, g'⟩⟩) fun u s1 ⟨v, H1, I1, r1, q1⟩ => ?_) ht
  obtain ⟨d, Z1, φ1, st1, rs1, sl1, rd, af1⟩ := q1
  split at af1
  · rename_i F eF
    obtain ⟨c, ec, el⟩ := Option.bind_eq_some_iff.mp eF
    obtain ⟨x, dx, gs, rfl, hx, hn⟩ := clsM_ok rs1 ec rd
    obtain ⟨f2, fd, hc, hm, Fo, hb⟩ := hT c F (look1_mem el)
    obtain rfl : u = Value.ref x := r1
    refine getmeth_ok I1 hx hc hm hn ?_
    refine PySem.W.callWith_K (first := [.ref x]) (h₀ := X.base) I.ok.mod.kin hm.kp (thn (ha.run pos pins s1 σ H1 (fun vs H2 => spF X.K F (.ref x :: vs) H2 Q (WE W σ)) I1 ⟨Z1, φ1, η, st1, rs1, sl1, af1.bind.mono fun a Z' φ' H' t g' rs' vs r => call_sp (ds := d :: a.1) rs' (sl1.mono t) ⟨_, vs, rfl, rd.mono t.hz t.app, r⟩ g'⟩) fun us s2 ⟨vs, H2, I2, r, q2⟩ => ⟨I2.kIn, ?_⟩) hst hpl
    have r6 : Vals (.ref x :: vs) (.ref x :: us) := .cons rfl r
    have hl : (Value.ref x :: us).length = ps.length := by rw [← r6.length]; exact Fo.len _ _ _ _ q2
    have bb := hb s2 (.ref x :: us) I2.kIn (by rw [List.append_nil]; exact hl)
    rw [List.append_nil] at bb
    refine wpAny_call (codeAny_mono (Fo.run X.A X.stack s2 H2 ⟨.ref x :: us, []⟩ (.ref x :: us) (.ref x :: vs) Q (WE W σ) (hr.mono hk) I2.env0 bb r6 q2) fun r s' hq => ?_)
    cases r with
    | error e => exact passAt tk σ pins H2 s2 e s' I2 hq
    | ok fl =>
      cases fl with
      | ret u => exact I2.after hq
      | next => exact False.elim hq
      | brk => exact False.elim hq
      | cont => exact False.elim hq
  · exact af1.elim
end
end M
end
section
set_option Elab.async false
set_option linter.all false
set_option maxRecDepth 100000
set_option maxHeartbeats 0
namespace M
open PySem PySem.W PySem.Calls PyProof.Rows PySem.HandSPX
def exB (f msg : Str) (j : Nat) (a1 a2 a3 a4 a5 a6 b1 b2 b3 b4 : Pos) : List Stmt :=
  [.Expr (.Call (.Attribute (.Call (.Name "super" a1) [] [] a2) "__init__" a3) [.Constant (.str msg) j a4] [] a5) a6, .Assign [.Attribute (.Name "self" b1) f b2] (.Name f b3) b4]
structure XCls (K : Frag) (c : Str) (C : Addr) : Prop where
  cls : ∃ nm q N bs bm sn sub ab col dd k0 k1 k2 k3 k5, K.lookup C = some (excClassObj nm q C N bs bm true sn sub ab col dd k0 k1 k2 k3 k5 "ValueError.__new__") ∧ refsVE bm = true
  kC : keepIn K (.ref C) = true
  exC : subIn K (.ref C) (.type "BaseException") = some true
  tyC : typeIn K (.ref C) = some (.type "type")
structure XTxt (K : Frag) (P : Program) (mg : Str → Option Value) (c f msg qual : Str) (params : Arguments) (body : List Stmt) (scope : Scope) (C fI cda cc : Addr) (fd : FuncData) : Prop where
  xc : XCls K c C
  sa : findIn K (.ref C) "__setattr__" = some (some (.builtin "object.__setattr__"))
  noN : findIn K (.ref C) f = some none
  iC : findIn K (.ref C) "__init__" = some (some (.ref fI))
  tC : typeIn K (.ref fI) = some (.type "function")
  sup : ks_superIn K C C "__init__" = some (some (.builtin "ValueError.__init__"))
  isV : subIn K (.ref C) (.type "ValueError") = some true
  me : mroIn K C (.ref C) = some true
  ga : findIn K (.ref C) "__getattribute__" = some (some (.builtin "BaseException.__getattribute__"))
  gg : findIn K (.ref C) "__getattr__" = some none
  hdC : hasDictIn K C = true
  fn : FunC K P mg "__init__" qual params body scope "self" C fI fd cda cc
/-- what a def's text says of its names -/
structure XScope (f : Str) (params : Arguments) (scope : Scope) : Prop where
  kind : scope.kind = .function
  co : scope.isCoroutine = false
  gen : scope.isGenerator = false
  nc : ∀ y ∈ scope.names, y.2 ≠ .cell
  sl : scope.names.lookup ("self" : Str) = some .local
  fl : scope.names.lookup f = some .local
  su : scope.names.lookup ("super" : Str) = some .globalImplicit
  cl : scope.names.lookup ("__class__" : Str) = some .free
  ne : f ≠ "self"
  nd : (f == ("__debug__" : Str)) = false
/-- what __init__ leaves of a fresh exception at x -/
structure InitEnd (h h' : Heap) (x C dx t1 : Addr) (f : Str) (v : Value) : Prop where
  keep : ∀ b o, b ≠ x → h.get? b = some o → h'.get? b = some o
  obj : h'.get? x = some { cls := .ref C, dict := some dx, data := .fields #[.ref t1, .none, .none, .none, .bool false, .none] }
  dbig : h.objs.size ≤ dx
  dne : dx ≠ x
  ns : h'.Ns1 dx (fun y => if y = f then some v else none)
structure OwnMade (h h' : Heap) (e C d : Addr) (f : Str) (v : Value) : Prop where
  keep : ∀ b o, h.get? b = some o → h'.get? b = some o
  new : h.objs.size ≤ e
  obj : ∃ oe vs, h'.get? e = some oe ∧ oe.cls = .ref C ∧ oe.dict = some d ∧ oe.data = .fields vs ∧ vs[1]? = some .none
  dbig : h.objs.size ≤ d
  dne : d ≠ e
  ns : h'.Ns1 d (fun y => if y = f then some v else none)
theorem quiet_fn {env : Env} (h : env.scope.kind = .function) : interactive env = false := by
  unfold interactive
  rw [h]
  rfl
theorem one_size (v : Value) : [v].length ≤ sizeLine := by
  rw [sizeLine_eq]
  exact (by decide : 1 ≤ 16777216)
theorem ldE {Mo : Model} {A : Around} {E : Value → Shared → Prop} {s : Shared} {env : Env} {m : Str → Option Value} {x : Str} {pos : Pos} {v : Value} {Q : Value → Shared → Prop} (hk : env.scope.kind = .function) (hl : env.kindOf x = some .local) (hn : s.heap.Ns env.locals m) (hv : m x = some v) (hd : (x == ("__debug__" : Str)) = false) (h : Q v s) :
    wpAny Mo A (eval (.Name x pos) env) Q E s := wpAny_Name (wpAny_loadName_local hk hl hn hv h) hd
section
variable {prog : Program} {w : World} {A : Around} {R : Result → Shared → Prop} {s : Shared} {K : Frag} {mg mb : Str → Option Value} {C fI cda cc : Addr} {fd : FuncData} {c f msg qual : Str} {params : Arguments} {scope : Scope} {j : Nat} {a1 a2 a3 a4 a5 a6 b1 b2 b3 b4 : Pos}
/-- the bound ValueError.__init__ called on a fresh exception -/
theorem call_mw {E : Value → Shared → Prop} {u x t0 : Addr} {rest : List Value} {Q : Value → Shared → Prop} {nm q : Str} {N : Addr} {bs bm : List Value} {hdct : Bool} {sn : List Str} {sub : List Value} {ab : Bool} {col : Option Bool} {dd : Option Addr} {k0 k1 k2 k3 k5 : Option Value}
    (hC : s.heap.get? C = some (excClassObj nm q C N bs bm hdct sn sub ab col dd k0 k1 k2 k3 k5 "ValueError.__new__")) (he : s.heap.get? x = some (excO C t0)) (hu : s.heap.get? u = some (kxs_mw "ValueError.__init__" x)) (hz : rest.length ≤ sizeLine)
    (h : ∀ h' t1, (∀ b o, b ≠ x → s.heap.get? b = some o → h'.get? b = some o) → h'.get? x = some (excO C t1) → Q .none { s with heap := h' }) :
    wpAny (model prog w) A (call (.ref u) rest) Q E s := by
  obtain ⟨hh, g, d, tk, os⟩ := s
  refine wpAny_call (codeAny_of_tree ?_)
  show wpAny _ A.in1 (callAny (.ref u) ⟨rest, []⟩) _ _ _
  simp only [callAny]
  refine wpAny_bind (wpAny_load hu ?_)
  simp only [kxs_mw, show (Value.type "method-wrapper" == Value.type "method" || Value.type "method-wrapper" == Value.type "builtin_function_or_method" || Value.type "method-wrapper" == Value.type "method-wrapper") = true by decide, if_true]
  refine KFB.if_so (by decide) ?_
  refine wpAny_bind (check_bound_init F.excBase_ValueError.toExcCallFacts hC he rfl ?_)
  refine wpAny_bind (wpAny_pure (wpAny_pure ?_))
  refine ⟨plainId_quiet F.excBase_ValueError.init.plain _, codeAny_builtin F.excBase_ValueError.initEntry ?_⟩
  exact exc_init_tree (cls := .ref C) (t0 := t0) (dv := none) (c2 := .none) (c3 := .none) (b4 := .bool false) he hz fun h' k e' t' => h h' _ k e'
theorem ex_init (T : XTxt K prog mg c f msg qual params (exB f msg j a1 a2 a3 a4 a5 a6 b1 b2 b3 b4) scope C fI cda cc fd) (S : XScope f params scope) {pl : Sem Bool} (hev : ∀ env : Env, eval (.Call (.Attribute (.Call (.Name "super" a1) [] [] a2) "__init__" a3) [.Constant (.str msg) j a4] [] a5) env = (do
      let ov ← attributeBase (.Call (.Name "super" a1) [] [] a2) "__init__" env (eval (.Call (.Name "super" a1) [] [] a2) env)
      standAt a3.atName
      let (f, first) ← holding [ov] (getMethod ov "__init__" pl)
      callWith a5 f first (backTo a5 (starEach [.Constant (.str msg) j a4] env)) [])) (hbind : ∀ (s : Shared) (u v kV doc pm ct : Value) (an : Option Addr), BindsTo s (fnX "__init__" qual params (exB f msg j a1 a2 a3 a4 a5 a6 b1 b2 b3 b4) scope [("__class__", cc)] .none kV doc pm an (.ref cda) ct) ⟨[u, v], []⟩ [("self", u), (f, v)])
    {x t0 : Addr} {v : Value} (X : K.In s.heap) (hg : s.heap.Ns mainGlobals mg) (hb : s.heap.Ns builtinsNs mb) (hbb : ∀ x : Str, x ≠ "__name__" → mb x = bootBuiltins x) (hlim : s.heap.NoLimit) (hx : s.heap.get? x = some (excO C t0)) (hnx : K.lookup x = none) (hroom : A.depth < recursionLimit)
    (hq : ∀ h' tk dx t1, InitEnd s.heap h' x C dx t1 f v → R (.ok (.ret .none)) { s with heap := h', toks := tk }) :
    codeAny (model prog w) A (.call (.ref fI) ⟨[.ref x, v], []⟩) R s := by
  obtain ⟨oc, od, kV, doc, pm, an, ct, osl, rfl, lk, hcd⟩ := T.fn.ex
  obtain ⟨nm, q, N, bs, bm, sn, sub, ab, col, dd, k0, k1, k2, k3, k5, hC, hbm⟩ := T.xc.cls
  have hcl : clsIn K C = some { name := nm, bases := bs, mro := .ref C :: bm, ns := N, qualname := q, hasDict := true, slotNames := sn, subclasses := sub, abstract := ab, collection := col, hasDel := false } := by unfold clsIn; rw [hC] <;> rfl
  have SK := T.fn.sup
  obtain ⟨foc, fod, fd0, fosl, ar, hf, hp, har⟩ := SK.fn
  obtain ⟨ccl, cdd, vs0, ccs, file, tf, hcode, hvs, hfile⟩ := SK.code
  obtain ⟨cl, cld, csl, hcell⟩ := SK.cell
  refine codeAny_call_function hroom (X _ _ lk) rfl S.co S.gen rfl (codeRec_of X hcd) (hbind _ _ _ _ _ _ _ _ _ _ _ _ ?_)
  refine wpAny_newFunctionEnv S.nc (fun y hy => ?_) (fun h₁ hns hsb => ?_) S.kind
  · rcases List.mem_cons.mp hy with rfl | hy
    · exact S.sl
    · simp at hy; subst hy; exact S.fl
  have k : ∀ b o, s.heap.get? b = some o → h₁.get? b = some o := fun b o e => hsb.extBut b o (Nat.ne_of_lt (Heap.lt_size e)) (Heap.get?_push_of_some _ e)
  refine ⟨hlim.keeps k, ks_codeAny_funcAt ?_⟩
  have hself : ([(("self" : Str), Value.ref x), (f, v)].reverse.lookup ("self" : Str)) = some (Value.ref x) := by
    have e1 : (("self" : Str) == f) = false := by simpa using (Ne.symm S.ne)
    show List.lookup ("self" : Str) [(f, v), (("self" : Str), Value.ref x)] = _
    rw [List.lookup_cons, e1]
    rfl
  have hfv : ([(("self" : Str), Value.ref x), (f, v)].reverse.lookup f) = some v := by
    show List.lookup f [(f, v), (("self" : Str), Value.ref x)] = _
    rw [List.lookup_cons]
    simp
  have X₁ : K.In h₁ := X.keeps k
  have hx₁ := k _ _ hx
  have hxC : x ≠ C := by
    rintro rfl
    rw [hnx] at hC; cases hC
  -- super().__init__(text)
  refine ks_wpAt_execs_cons ?_
  refine ks_wpAt_Expr_any ?_ (quiet_fn S.kind) rfl
  refine ks_wpAt_MethodCall (pl := pl) ?_ (hev _)
  refine ks_wpAt_super_base (f := fI) (cc := cda) S.su S.cl (by decide) rfl (X₁ _ _ hf) rfl hp rfl (X₁ _ _ hcode) rfl hvs hfile SK.top ?_
  refine ks_loadName_global S.kind S.su (Calls.loadGlobal_builtin (hg.keeps k) SK.free (hb.keeps k) ((hbb _ (by decide)).trans bt_super) ⟨rfl, ?_⟩)
  refine wpAny_loadName_free S.kind S.cl rfl ⟨_, X₁ _ _ hcell, rfl⟩ ?_
  rw [har]
  refine wpAny_loadName_local S.kind S.sl hns hself ?_
  refine ks_wpAny_isType_cls (X₁ _ _ hC) rfl ⟨rfl, ?_⟩
  refine ks_wpAny_call_super (X₁ _ _ hC) rfl hx₁ rfl (fun c z => by cases z) (looks_mroIn X₁ T.me) fun h₂ e₂ k₂ => ?_
  have X₂ : K.In h₂ := X₁.keeps k₂
  have hx₂ := k₂ _ _ hx₁
  have hsup : alongIn K "__init__" (((Value.ref C :: bm).dropWhile (· != .ref C)).drop 1) = some (some (.builtin "ValueError.__init__")) := by
    have q := T.sup
    unfold ks_superIn at q
    rw [hcl] at q
    exact q
  have hI : Looks (model prog w) h₂ (isInstance (.ref x) (.type "ValueError")) true := (NwA.type_at hx₂ rfl).andThen (looks_subIn X₂ T.isV)
  refine kxs_getMethod kxs_ValueError e₂ (looks_opaque X₂ SK.opq) (l₀ := .ref C :: bm) (fun A Q E s k q => wpAny_bind ((looks_clsIn X₂ hcl) A _ E s k (wpAny_pure q))) rfl X₂ hsup hI hxC (by decide) ?_
  refine kxs_callWith (i := "ValueError.__init__") (x := x) rfl (evalArgs_plain ?_)
  refine spliced_more (Calls.Constant_str (spliced_none ?_))
  refine ⟨Heap.get?_push_size _ rfl, ?_⟩
  have k₃ : ∀ b o, h₂.get? b = some o → (h₂.push (kxs_mw "ValueError.__init__" x)).get? b = some o := fun b o e => Heap.get?_push_of_some _ e
  refine call_mw (k₃ _ _ (X₂ _ _ hC)) (k₃ _ _ hx₂) (Heap.get?_push_size _ rfl) (one_size _) fun h₄ t1 k₄ hx₄ => ?_
  -- self.f = f
  have kk : ∀ b o, b ≠ x → h₁.get? b = some o → h₄.get? b = some o := fun b o hb e => k₄ b o hb (k₃ _ _ (k₂ _ _ e))
  have X₄ : K.In h₄ := fun a o e => kk a o (fun z => by rw [z, hnx] at e; cases e) (X₁ a o e)
  have hxL : s.heap.objs.size ≠ x := Nat.ne_of_gt (Heap.lt_size hx)
  have hns₄ : h₄.Ns s.heap.objs.size (fun y => [(("self" : Str), Value.ref x), (f, v)].reverse.lookup y) := by
    obtain ⟨ob, es, ep, ho, r⟩ := hns
    exact ⟨ob, es, ep, kk _ _ hxL ho, r⟩
  refine _root_.PySem.wpAt_of_wpAny (wpAny_execs_cons (plainObj_wpAny_Assign_Attribute ?_ rfl))
  refine ldE S.kind S.fl hns₄ hfv S.nd (ldE S.kind S.sl hns₄ hself (by decide) ?_)
  refine set_plain X₄ (ox := excO C t1) (od := none) ⟨hx₄, rfl, rfl, trivial⟩ T.sa ?_
  refine exc_osa X₄ hx₄ hcl (show refsVE (.ref C :: bm) = true from hbm) rfl T.noN (fun h₅ tk₅ dx k₅ dn dne hx₅ hn₅ => ?_)
  show wpAny _ _ (execs _ _) _ _ _
  have z : s.heap.objs.size < h₄.objs.size := hns₄.lt
  exact wpAny_execs_nil (hq h₅ tk₅ dx t1 ⟨fun b o hb e => k₅ b o hb (kk b o hb (k b o e)), hx₅, Nat.le_of_lt (Nat.lt_of_lt_of_le z dn), dne, hn₅⟩)
end
end M
end
section
set_option Elab.async false
set_option linter.all false
set_option maxRecDepth 100000
set_option maxHeartbeats 0
namespace M
section
open PySem PySem.W PySem.Calls PyProof.Rows PySem.HandSPX
variable {prog : Program} {w : World} {A : Around} {R : Result → Shared → Prop} {s : Shared} {K : Frag} {mg mb : Str → Option Value} {C fI cda cc : Addr} {fd : FuncData} {c f msg qual : Str} {params : Arguments} {scope : Scope} {j : Nat} {a1 a2 a3 a4 a5 a6 b1 b2 b3 b4 : Pos}
/-- C(v) -/
theorem ex_made (T : XTxt K prog mg c f msg qual params (exB f msg j a1 a2 a3 a4 a5 a6 b1 b2 b3 b4) scope C fI cda cc fd) (S : XScope f params scope) {pl : Sem Bool} (hev : ∀ env : Env, eval (.Call (.Attribute (.Call (.Name "super" a1) [] [] a2) "__init__" a3) [.Constant (.str msg) j a4] [] a5) env = (do
      let ov ← attributeBase (.Call (.Name "super" a1) [] [] a2) "__init__" env (eval (.Call (.Name "super" a1) [] [] a2) env)
      standAt a3.atName
      let (f, first) ← holding [ov] (getMethod ov "__init__" pl)
      callWith a5 f first (backTo a5 (starEach [.Constant (.str msg) j a4] env)) []))
    (hbind : ∀ (s : Shared) (u v kV doc pm ct : Value) (an : Option Addr), BindsTo s (fnX "__init__" qual params (exB f msg j a1 a2 a3 a4 a5 a6 b1 b2 b3 b4) scope [("__class__", cc)] .none kV doc pm an (.ref cda) ct) ⟨[u, v], []⟩ [("self", u), (f, v)])
    {v : Value} (X : K.In s.heap) (hg : s.heap.Ns mainGlobals mg) (hb : s.heap.Ns builtinsNs mb) (hbb : ∀ x : Str, x ≠ "__name__" → mb x = bootBuiltins x) (hlim : s.heap.NoLimit) (hroom : A.depth + 1 < recursionLimit)
    (hq : ∀ h' tk e d, OwnMade s.heap h' e C d f v → R (.ok (.ret (.ref e))) { s with heap := h', toks := tk }) :
    codeAny (model prog w) A (.call (.ref C) ⟨[v], []⟩) R s := by
  obtain ⟨nm, q, N, bs, bm, sn, sub, ab, col, dd, k0, k1, k2, k3, k5, hC, hbm⟩ := T.xc.cls
  obtain ⟨hp, g, dr, tk, os⟩ := s
  have k : ∀ b o, hp.get? b = some o → ((hp.push (kdv_tup [v])).push (excO C hp.objs.size)).get? b = some o := fun b o e => Heap.get?_push_of_some _ (Heap.get?_push_of_some _ e)
  have hget : ((hp.push (kdv_tup [v])).push (excO C hp.objs.size)).get? (hp.objs.size + 1) = some (excO C hp.objs.size) := by heap_get
  have hnx : K.lookup (hp.objs.size + 1) = none := by
    cases e : K.lookup (hp.objs.size + 1) with
    | none => rfl
    | some o =>
      have z : hp.get? (hp.objs.size + 1) = some o := X _ _ e
      exact absurd (Nat.lt_of_succ_lt (Heap.lt_size z)) (Nat.lt_irrefl _)
  refine call_own F.excBase_ValueError (fun X => refsVE_contains X bm hbm) (X _ _ hC) (looks_findIn X T.iC) (fun self => bind_fn X self T.tC) (one_size v) ?_
  refine ex_init (s := ⟨(hp.push (kdv_tup [v])).push (excO C hp.objs.size), g, dr, tk, os⟩) T S hev hbind (X.keeps k) (hg.keeps k) (hb.keeps k) hbb (hlim.keeps k) hget hnx ?_ fun h' tk' dx t1 ⟨k', hx, dn, dne, hns⟩ => ?_
  · show A.depth + 1 < recursionLimit
    exact hroom
  · have old : ∀ b o, hp.get? b = some o → h'.get? b = some o := fun b o e => k' b o (Nat.ne_of_lt (Nat.lt_succ_of_lt (Heap.lt_size e))) (k b o e)
    have z : hp.objs.size + 1 + 1 ≤ dx := by
      first
        | (simpa only [Heap.size_push] using dn)
        | exact dn
        | (have q := dn; rw [Heap.size_push, Heap.size_push] at q; exact q)
    exact ⟨rfl, hq h' tk' (hp.objs.size + 1) dx ⟨old, Nat.le_succ _, ⟨_, _, hx, rfl, rfl, rfl, rfl⟩, Nat.le_trans (Nat.le_trans (Nat.le_succ _) (Nat.le_succ _)) z, dne, hns⟩⟩
end
open PySem PySem.Spec PyProof.Rows L2
/-- what is known of an error's class with one field -/
structure XOk (P : Program) (K : PySem.W.Frag) (mg : Str → Option Value) (x c f : Str) : Prop where
  ex : ∃ (msg qual : Str) (params : Arguments) (scope : Scope) (fI cda cc : Addr) (fd : FuncData) (j : Nat) (a1 a2 a3 a4 a5 a6 b1 b2 b3 b4 : Pos) (pl : Sem Bool), XTxt K P mg c f msg qual params (exB f msg j a1 a2 a3 a4 a5 a6 b1 b2 b3 b4) scope (He.ga K c) fI cda cc fd ∧ XScope f params scope ∧
    (∀ env : Env, eval (.Call (.Attribute (.Call (.Name "super" a1) [] [] a2) "__init__" a3) [.Constant (.str msg) j a4] [] a5) env = (do
      let ov ← attributeBase (.Call (.Name "super" a1) [] [] a2) "__init__" env (eval (.Call (.Name "super" a1) [] [] a2) env)
      standAt a3.atName
      let (f, first) ← holding [ov] (getMethod ov "__init__" pl)
      callWith a5 f first (backTo a5 (starEach [.Constant (.str msg) j a4] env)) [])) ∧
    (∀ (s : Shared) (u v kV doc pm ct : Value) (an : Option Addr), BindsTo s (PySem.W.fnX "__init__" qual params (exB f msg j a1 a2 a3 a4 a5 a6 b1 b2 b3 b4) scope [("__class__", cc)] .none kV doc pm an (.ref cda) ct) ⟨[u, v], []⟩ [("self", u), (f, v)])
  gC : mg x = some (.ref (He.ga K c))
theorem relO_one {v : V} {v' : Value} {n : Str} (r : RelV v v') (f : Str) : RelO (List.lookup f [(n, v)]) (if f = n then some v' else none) := by
  by_cases hw : f = n
  · subst hw
    rw [if_pos rfl]
    have q : List.lookup f [(f, v)] = some v := by simp [List.lookup]
    rw [q]
    exact r
  · rw [if_neg hw]
    have qw : (f == n) = false := by simpa using hw
    have q2 : List.lookup f [(n, v)] = none := by simp [List.lookup, qw]
    rw [q2]
    trivial
def tMkX (C : Addr) (n : Str) (ta : TA) : L2.St → Hp → XK → Prop := fun σ H Q => ta σ H fun vs H1 => ∃ v, vs = [v] ∧ ∀ d, H1 d = none → Q (.ref C) (some d) (upd H1 d (.xd [(n, v)]))
def dRaise (c f : Str) (g : DA) : DS := fun η st => (g η st).bind fun a => match toPs a.2 a.1 with
  | some ([p], st') => .exc c (some [(f, p)]) η st'
  | _ => .stuck
section
variable {X : Cx} {W : WX} {x c n : Str} {a : Expr} {p pos pos2 : Pos} {k : Nat} {g : DA}
theorem pmk_x {ta : TA} (T : XOk X.prog X.K X.mg x c n) (hr : Room k X.A) (ha : PA X [a] ta) (hg : Gl X x) (hdb : (x == ("__debug__" : Str)) = false := by decide)
    (he : starEach (a :: []) X.env = (false, eval a X.env) :: starEach [] X.env := by rfl) (hpl : (backTo pos (starEach [] X.env)).any (·.1) = false := by rfl) :
    PMk X (.Call (.Name x p) [a] [] pos) (tMkX (He.ga X.K c) n ta) := by
  intro pins s σ H Q I h
  obtain ⟨msg, qual, params, scope, fI, cda, cc, fd, j, a1, a2, a3, a4, a5, a6, b1, b2, b3, b4, pl, XT, XS, hev, hbind⟩ := T.ex
  refine wpAny_Call_Name_kw (ld_glob I hg T.gC ?_ hdb)
  refine PySem.W.callWith_K (h₀ := X.base) I.ok.mod.kin XT.xc.kC (thn (ha.run pos pins s σ H _ I h) fun us s1 hh => ?_) he hpl
  obtain ⟨vs, H1, I1, r1, v, ev, q1⟩ := hh
  subst ev
  refine ⟨I1.kIn, ?_⟩
  cases r1 with
  | cons rv rn =>
    rename_i v' us'
    cases rn
    show wpAny _ _ (call (.ref (He.ga X.K c)) [v']) _ _ _
    have hlim := I1.nolimit
    obtain ⟨mb, hb1, hb2⟩ := I1.mod.blt
    have hgl := I1.mod.glob.keeps I1.bk
    have hbl := hb1.keeps I1.bk
    obtain ⟨hp, gs, dr, tk, os⟩ := s1
    refine wpAny_call (ex_made XT XS hev hbind I1.kIn hgl hbl hb2 hlim (by have := hr.dp; omega) fun h' tk' e d M => ?_)
    show MkP X pins σ Q (.ref e) ⟨h', gs, dr, tk', os⟩
    obtain ⟨oe, fv, hoe, hc, hd, hdat, h1⟩ := M.obj
    have hns := M.ns
    obtain ⟨G', g1, g2⟩ := restrict h' fun b => decide (b ≠ e)
    have gk : ∀ b, b ≠ e → G'.get? b = h'.get? b := fun b hb => g1 b (decide_eq_true hb)
    have ge : G'.get? e = none := g2 e (by simp)
    have old : ∀ b o, hp.get? b = some o → G'.get? b = some o := fun b o q => (gk b (Nat.ne_of_lt (Nat.lt_of_lt_of_le (Heap.lt_size q) M.new))).trans (M.keep b o q)
    have ob : ObjOk X.prog X.w (upd H1 d (.xd [(n, v)])) G' d (.xd [(n, v)]) := ⟨_, hns.at (fun o q => (gk d M.dne).trans q), fun f => relO_one rv f⟩
    have J : Inv X pins σ (upd H1 d (.xd [(n, v)])) ⟨G', gs, dr, tk', os⟩ := I1.laid (t' := tk') old M.dbig ob
    refine ⟨e, oe, fv, ⟨G', gs, dr, tk', os⟩, _, .ref (He.ga X.K c), some d, rfl, J, fun b o q => ?_, ge, hoe, ⟨hc, hd⟩, hdat, h1, ?_, rfl, I1.bare, raises_own XT.xc.exC XT.xc.tyC, q1 d (I1.hok.fresh M.dbig)⟩
    · by_cases hb : b = e
      · have q' : G'.get? b = some o := q
        rw [hb, ge] at q'; cases q'
      · exact (gk b hb).symm.trans q
    · rw [upd_ne (Ne.symm M.dne)]
      exact I1.hok.fresh M.new
/-- raise C(e) -/
theorem ds_raise (hc : X.calm = true) (T : XOk X.prog X.K X.mg x c n) (hr : Room k X.A) (tk : Takes X W) (ha : PA X [a] (tA X.K W g)) (hg : Gl X x) (hdb : (x == ("__debug__" : Str)) = false := by decide)
    (he : starEach (a :: []) X.env = (false, eval a X.env) :: starEach [] X.env := by rfl) (hpl : (backTo pos (starEach [] X.env)).any (·.1) = false := by rfl) :
    PS X (.Raise (some (.Call (.Name x p) [a] [] pos)) none pos2) (tS X.K W (dRaise c n g)) := by
  refine (ps_raise hc tk (pmk_x T hr ha hg hdb he hpl)).to fun E σ H h => ?_
  obtain ⟨Z, φ, η, st, rs, sl, af⟩ := h
  refine ⟨Z, φ, η, st, rs, sl, af.bind.mono fun a Z' φ' H' t g' rs' vs r => ?_⟩
  split at g'
  · rename_i q st' e1
    obtain ⟨Z2, f2, rs2, q2⟩ := toPs_ok rs' e1 r
    rw [Reps] at q2
    obtain ⟨v, ws, rfl, h1, h2⟩ := q2
    rw [Reps] at h2
    subst h2
    refine ⟨v, rfl, fun d hd => ?_⟩
    obtain ⟨rs3, s3⟩ := rs2.more (o := .xd [(n, v)]) hd
    exact g' σ (upd H' d (.xd [(n, v)])) Z2 φ' (f2.step.trans s3) rs3 (((sl.mono t).mono f2.step).mono s3) d [(n, v)] upd_same (by rw [RepF]; exact ⟨v, [], rfl, h1, by rw [RepF]⟩)
  · exact g'.elim
end
end M
end
section
set_option Elab.async false
set_option linter.all false
set_option maxRecDepth 100000
set_option maxHeartbeats 0
namespace M
open PySem L2
/-- the exception that the suite holds: at a, of the class c, with the fields fs; slot i is its name's -/
structure XF (K : PySem.W.Frag) (a : Addr) (cls : Value) (d : Option Addr) (i : Nat) (c : Str) (fs : Option (List (Str × P))) (Z : Hp) (σ : St) : Prop where
  sl : σ[i]? = some (some (.ref a))
  cl : cls = .ref (He.ga K c)
  fl : match fs with
    | none => True
    | some l => ∃ dx gs, d = some dx ∧ Z dx = some (.xd gs) ∧ RepF K Z l gs
  dd : d = none ∨ ∃ dx gs, d = some dx ∧ Z dx = some (.xd gs)
section
variable {K : PySem.W.Frag} {a : Addr} {cls : Value} {d : Option Addr} {i : Nat} {c : Str} {fs : Option (List (Str × P))} {Z Z' : Hp} {σ : St}
theorem XF.mono (h : XF K a cls d i c fs Z σ) (e : Same Z Z') : XF K a cls d i c fs Z' σ := by
  refine ⟨h.sl, h.cl, ?_, ?_⟩
  · cases fs with
    | none => trivial
    | some l =>
      obtain ⟨dx, gs, h1, h2, h3⟩ := h.fl
      exact ⟨dx, gs, h1, e _ _ h2, RepF.mono e _ _ h3⟩
  · rcases h.dd with h | ⟨dx, gs, h1, h2⟩
    · exact .inl h
    · exact .inr ⟨dx, gs, h1, e _ _ h2⟩
end
/-- an exception's dict is frozen -/
theorem RS.freezeX {K : PySem.W.Frag} {Z H : Hp} {φ : List Addr} {st : Sr} {dx : Addr} {gs : List (Str × V)} (h : RS K Z φ st H) (hd : H dx = some (.xd gs)) : ∃ Z', Same Z Z' ∧ Z' dx = some (.xd gs) ∧ RS K Z' φ st H ∧ Step Z φ H Z' φ H := by
  have ou : ∀ b o, H b = some o → Dat o → b ≠ dx := fun b o e D z => by
    rw [z, hd] at e; cases e; exact D.1 (.inr ⟨gs, rfl⟩)
  have sz : Same Z (upd Z dx (.xd gs)) := fun b o e => by
    by_cases q : b = dx
    · subst q; have := h.same _ _ e; rw [hd] at this; cases this; exact upd_same
    · rw [upd_ne q]; exact e
  refine ⟨upd Z dx (.xd gs), sz, upd_same, ⟨fun b o e => ?_, h.len, h.nd, fun j b c hj hc => ?_, h.tb, fun b ps z => ?_⟩, ⟨sz, ⟨[], by simp, by simp⟩, fun b o e _ _ => e, fun b hb => ?_, fun b hb => hb, fun _ _ _ e => e⟩⟩
  · by_cases q : b = dx
    · subst q; rw [upd_same] at e; cases e; exact hd
    · rw [upd_ne q] at e; exact h.same b o e
  · have rc := h.cells j b c hj hc
    obtain ⟨o, ho, hD⟩ := rc.at2
    have nb := ou b o ho hD
    exact rc.keep sz ⟨[], by simp⟩ (fun q => by rw [upd_ne nb]; exact rc.free q) fun u hu _ => hu
  · by_cases q : b = dx
    · subst q; rw [upd_same] at z; cases z
    · rw [upd_ne q] at z; exact h.zd b ps z
  · by_cases q : b = dx
    · subst q; exact .inr (.inl fun o ho => by rw [hd] at ho; cases ho; exact .inr ⟨gs, rfl⟩)
    · rw [upd_ne q] at hb; exact .inl hb
section
variable (K : PySem.W.Frag) (W : WX) (a : Addr) (cls : Value) (d : Option Addr) (i : Nat) (c : Str) (fs : Option (List (Str × P)))
def Rd4X {α : Type} (f : Et → Sr → R α) (σ : St) (H : Hp) (G : α → Hp → List Addr → Hp → Prop) : Prop := ∃ Z φ η st, RS K Z φ st H ∧ Slots K Z φ η σ ∧ XF K a cls d i c fs Z σ ∧ Af K W Z φ H (f η st) G
def GSX (E : Ends) : (Fl × Et × Sr) → Hp → List Addr → Hp → Prop := fun r Z' φ' H' => RS K Z' φ' r.2.2 H' → match r.1 with
  | .nx => ∀ σ', Slots K Z' φ' r.2.1 σ' → XF K a cls d i c fs Z' σ' → E.nx σ' H'
  | .bk => ∀ σ', Slots K Z' φ' r.2.1 σ' → E.bk σ' H'
  | .ct => ∀ σ', Slots K Z' φ' r.2.1 σ' → E.ct σ' H'
  | .rt x => ∀ v, RepD K Z' φ' x v → E.rt v H'
def tSX (f : DS) : TS := fun E σ H => Rd4X K W a cls d i c fs f σ H (GSX K a cls d i c fs E)
end
structure XAt (K : PySem.W.Frag) (C : Addr) : Prop where
  ga : PySem.W.findIn K (.ref C) "__getattribute__" = some (some (.builtin "BaseException.__getattribute__"))
  gg : PySem.W.findIn K (.ref C) "__getattr__" = some none
  exC : PySem.W.subIn K (.ref C) (.type "BaseException") = some true
  hdC : PySem.W.hasDictIn K C = true
  cla : PySem.W.findIn K (.ref C) "__class__" = some (some (.builtin "object.__class__"))
  top : PySem.W.mroIn K C (.type "object") = some true
theorem RepF.look {K : PySem.W.Frag} {Z : Hp} {f : Str} {p : P} : ∀ {l : List (Str × P)} {gs : List (Str × V)}, RepF K Z l gs → l.lookup f = some p → ∃ v, gs.lookup f = some v ∧ Rep K Z p v
  | [], gs, h, e => by cases e
  | (k, q) :: r, gs, h, e => by
    rw [RepF] at h
    obtain ⟨v, ws, rfl, h1, h2⟩ := h
    rw [List.lookup_cons] at e ⊢
    cases z : f == k with
    | true => rw [z] at e; cases e; exact ⟨v, rfl, h1⟩
    | false => rw [z] at e; exact RepF.look h2 e
theorem Slots.unset {K : PySem.W.Frag} {Z : Hp} {φ : List Addr} {η : Et} {σ : St} {i : Nat} {o : Option V} (h : Slots K Z φ η σ) : Slots K Z φ (η.set i none) (σ.set i o) := by
  refine ⟨by simp [h.len], fun j e hj => ?_⟩
  by_cases hi : i = j
  · subst hi
    by_cases hl : i < η.length
    · rw [List.getElem?_set_self hl] at hj; cases hj
    · rw [List.getElem?_eq_none (by simpa using hl)] at hj; cases hj
  · rw [List.getElem?_set_ne hi] at hj
    rw [List.getElem?_set_ne hi]
    exact h.at_ j e hj
/-- what the suite gives back -/
def fromSuite (i : Nat) : R (Fl × Et × Sr) → R (Fl × Et × Sr)
  | .ok (fl, η, st) => .ok (fl, η.set i none, st)
  | _ => .stuck
end M
end
section
set_option Elab.async false
set_option linter.all false
set_option maxRecDepth 100000
set_option maxHeartbeats 0
namespace M
open PySem L2
def tyP : P → Option String
  | .non => some "NoneType"
  | .bl _ => some "bool"
  | .int _ => some "int"
  | .str _ => some "str"
  | .tup _ => some "tuple"
  | .lst _ => some "list"
  | .rol _ => some "list"
  | .dct _ => some "dict"
  | .obj _ _ => none
  | .cls _ => none
def isiO (T : String) (d : D) (st : Sr) : R (D × Sr) := match (peek st d).bind tyP with
  | some t => match kitB t T with
    | some b => .ok (.fz (.bl b), st)
    | none => .stuck
  | none => .stuck
theorem sqT_ty {K : PySem.W.Frag} {H : Hp} {a : Addr} {xs : List V} (h : SqT K H a xs) : TyX K H (.ref a) (.type "tuple") := by
  rcases h with (h | ⟨o, h⟩) | ⟨o, its, n, e1, e2, _⟩
  · exact .base (.tup h)
  · exact .fTuple h
  · exact .kTuple e1 e2
theorem sqL_ty {K : PySem.W.Frag} {H : Hp} {a : Addr} {xs : List V} (h : SqL K H a xs) : TyX K H (.ref a) (.type "list") := by
  rcases h with (h | ⟨o, h⟩) | ⟨o, its, n, e1, e2, _⟩
  · exact .base (.lst h)
  · exact .base (.frz h)
  · exact .kList e1 e2
theorem pk_ty {K : PySem.W.Frag} {Z H : Hp} {p : P} {v : V} {t : String} (h : PkR K Z H p v) (e : tyP p = some t) : TyX K H v (.type t) := by
  cases p with
  | non => cases h; cases e; exact .base .non
  | bl b => cases h; cases e; exact .base (.bl b)
  | int b => cases h; cases e; exact .base (.int b)
  | str b => cases h; cases e; exact .base (.str b)
  | tup xs => obtain ⟨a, vs, rfl, h2, h3⟩ := h; cases e; exact sqT_ty h2
  | lst xs => obtain ⟨a, vs, rfl, h2, h3⟩ := h; cases e; exact sqL_ty (SqL.of h2)
  | rol xs => obtain ⟨a, vs, rfl, h2, h3⟩ := h; cases e; exact sqL_ty h2
  | dct xs => obtain ⟨a, vs, rfl, h2, h3⟩ := h; cases e; exact .base (.dK h2)
  | obj c xs => cases e
  | cls c => cases e
section
variable {X : Cx} {W : WX} {a b e o i value : Expr} {es : List Expr} {f g h : DE} {fs : DA} {pos pos' p p1 p2 : Pos}
/-- a built-in class as a value -/
theorem pe_ty {T : String} {x : Str} (hg : Gl X x) (hm : X.mg x = none) (hv : bootBuiltins x = some (.type T)) (hn : x ≠ "__name__" := by decide) (hd : (x == ("__debug__" : Str)) = false := by decide) : PE X (.Name x pos) (tC (.ty T)) :=
  ⟨fun _ _ _ H _ I h => ld_blt I hg hm hv ⟨.ty T, H, I, rfl, h⟩ hn hd⟩
theorem de_isi {T : String} {x : Str} (hgi : Gl X "isinstance") (hmi : X.mg "isinstance" = none) (hg : Gl X x) (hm : X.mg x = none) (hv : bootBuiltins x = some (.type T)) (ha : PE X e (tE X.K W f)) (hn : x ≠ "__name__" := by decide) (hd : (x == ("__debug__" : Str)) = false := by decide)
    (hs1 : starEach [e, .Name x p2] X.env = (false, eval e X.env) :: starEach [.Name x p2] X.env := by rfl) (hs2 : starEach [.Name x p2] X.env = (false, eval (.Name x p2) X.env) :: starEach [] X.env := by rfl) :
    PE X (.Call (.Name "isinstance" p) [e, .Name x p2] [] pos) (tE X.K W (dUn (isiO T) f)) := by
  refine (pe_callB call_isi hgi hmi (by decide +kernel) (pa_cons ha (pa_cons (pe_ty hg hm hv hn hd) pa_nil hs2) hs1) (by decide) (by decide) hs1 (by rw [hs2]; rfl)).to fun σ H Q hh => ?_
  obtain ⟨Z, φ, η, st, rs, sl, af⟩ := hh
  refine ⟨Z, φ, η, st, rs, sl, af.bind.mono fun a Z' φ' H' t g' rs' v r => ?_⟩
  unfold isiO at g'
  split at g'
  · rename_i ty e1
    split at g'
    · rename_i bb e2
      obtain ⟨q, e3, e4⟩ := Option.bind_eq_some_iff.mp e1
      exact ⟨v, .ty T, .type ty, .type T, bb, rfl, .ty T, pk_ty (peek_pk rs' e3 r) e4, kit_ty e2, g'.here rs' rep_bl⟩
    · exact g'.elim
  · exact g'.elim
def flatP : P → Bool
  | .non => true
  | .bl _ => true
  | .int _ => true
  | .str _ => true
  | _ => false
def vP : P → V
  | .non => .non
  | .bl b => .bl b
  | .int i => .int i
  | .str s => .str s
  | _ => .non
theorem vP_rep {K : PySem.W.Frag} {Z : Hp} {p : P} {v : V} (h : Rep K Z p v) (f : flatP p = true) : v = vP p ∧ flatV v = true := by
  cases p with
  | non => rw [Rep] at h; subst h; exact ⟨rfl, rfl⟩
  | bl b => rw [Rep] at h; subst h; exact ⟨rfl, rfl⟩
  | int b => rw [Rep] at h; subst h; exact ⟨rfl, rfl⟩
  | str b => rw [Rep] at h; subst h; exact ⟨rfl, rfl⟩
  | _ => cases f
theorem vP_reps {K : PySem.W.Frag} {Z : Hp} : ∀ {ps : List P} {vs : List V}, Reps K Z ps vs → ps.all flatP = true → vs = ps.map vP ∧ vs.all flatV = true
  | [], vs, h, _ => by rw [Reps] at h; subst h; exact ⟨rfl, rfl⟩
  | p :: ps, vs, h, f => by
    rw [Reps] at h
    obtain ⟨v, ws, rfl, h1, h2⟩ := h
    rw [List.all_cons, Bool.and_eq_true] at f
    obtain ⟨a1, a2⟩ := vP_rep h1 f.1
    obtain ⟨b1, b2⟩ := vP_reps h2 f.2
    exact ⟨by rw [List.map_cons, a1, b1], by rw [List.all_cons, a2, b2]; rfl⟩
def keyP : P → Option Key
  | .int i => some (.inl i)
  | .str s => some (.inr s)
  | _ => none
theorem keyP_rep {K : PySem.W.Frag} {Z : Hp} {p : P} {v : V} {k : Key} (h : Rep K Z p v) (e : keyP p = some k) : v = kV k := by
  cases p with
  | int b => cases e; rw [Rep] at h; exact h
  | str b => cases e; rw [Rep] at h; exact h
  | _ => cases e
def hasK (k : Key) : List (Key × P) → Bool
  | [] => false
  | (j, _) :: r => decide (j = k) || hasK k r
def putP (k : Key) (q : P) : List (Key × P) → List (Key × P)
  | [] => [(k, q)]
  | (j, p) :: r => if j = k then (j, q) :: r else (j, p) :: putP k q r
theorem hasK_ok {K : PySem.W.Frag} {Z : Hp} {k : Key} : ∀ {kvs : List (Key × P)} {kws : List (Key × V)}, RepK K Z kvs kws → (valV kws k).isSome = hasK k kvs
  | [], kws, h => by rw [RepK] at h; subst h; rfl
  | (j, p) :: r, kws, h => by
    rw [RepK] at h
    obtain ⟨v, ws, rfl, h1, h2⟩ := h
    unfold hasK
    by_cases e : j = k
    · rw [valV_pos (p := (j, v)) e]; simp [e]
    · have : valV ((j, v) :: ws) k = valV ws k := by unfold valV; rw [List.find?_cons]; simp [e]
      rw [this, hasK_ok h2]; simp [e]
/-- the keys are apart -/
def ndK : List (Key × P) → Bool
  | [] => true
  | (j, _) :: r => !hasK j r && ndK r
theorem hasK_any {K : PySem.W.Frag} {Z : Hp} {k : Key} {kvs : List (Key × P)} {kws : List (Key × V)} (h : RepK K Z kvs kws) : (kws.any fun kv => decide (kv.1 = k)) = hasK k kvs := by
  induction kvs generalizing kws with
  | nil => rw [RepK] at h; subst h; rfl
  | cons a r ih =>
    obtain ⟨j, p⟩ := a
    rw [RepK] at h
    obtain ⟨v, ws, rfl, h1, h2⟩ := h
    unfold hasK
    rw [List.any_cons, ih h2]
theorem noK_map {K : PySem.W.Frag} {Z : Hp} {k : Key} {w : V} {kvs : List (Key × P)} {kws : List (Key × V)} (h : RepK K Z kvs kws) (e : hasK k kvs = false) : kws.map (fun kv => if kv.1 = k then (kv.1, w) else kv) = kws := by
  induction kvs generalizing kws with
  | nil => rw [RepK] at h; subst h; rfl
  | cons a r ih =>
    obtain ⟨j, p⟩ := a
    rw [RepK] at h
    obtain ⟨v, ws, rfl, h1, h2⟩ := h
    unfold hasK at e
    rw [Bool.or_eq_false_iff, decide_eq_false_iff_not] at e
    rw [List.map_cons, ih h2 e.2, if_neg e.1]
theorem putP_ok {K : PySem.W.Frag} {Z : Hp} {k : Key} {q : P} {w : V} (hq : Rep K Z q w) : ∀ {kvs : List (Key × P)} {kws : List (Key × V)}, ndK kvs = true → RepK K Z kvs kws → RepK K Z (putP k q kvs) (putK kws k w)
  | [], kws, _, h => by rw [RepK] at h; subst h; show RepK K Z [(k, q)] [(k, w)]; rw [RepK]; exact ⟨w, [], rfl, hq, by rw [RepK]⟩
  | (j, p) :: r, kws, hn, h => by
    have h0 := h
    rw [RepK] at h
    obtain ⟨v, ws, rfl, h1, h2⟩ := h
    unfold ndK at hn
    rw [Bool.and_eq_true, Bool.not_eq_true'] at hn
    unfold putP
    unfold putK
    rw [hasK_any h0]
    unfold hasK
    by_cases e : j = k
    · subst e
      rw [if_pos rfl]
      simp only [decide_true, Bool.true_or, if_true, List.map_cons]
      rw [noK_map h2 hn.1, RepK]
      exact ⟨w, ws, rfl, hq, h2⟩
    · rw [if_neg e]
      have ih := putP_ok (k := k) hq hn.2 h2
      unfold putK at ih
      rw [hasK_any h2] at ih
      have ed : decide (j = k) = false := decide_eq_false e
      rw [ed, Bool.false_or]
      cases hk : hasK k r with
      | true =>
        rw [hk] at ih
        simp only [if_true, List.map_cons, if_neg e] at ih ⊢
        rw [RepK]; exact ⟨v, _, rfl, h1, ih⟩
      | false =>
        rw [hk] at ih
        simp only [Bool.false_eq_true, if_false] at ih ⊢
        rw [RepK]; exact ⟨v, _, rfl, h1, ih⟩
def inB (p q : P) : Option Bool := match q with
  | .lst xs => if flatP p = true ∧ xs.all flatP = true then some (inV (vP p) (xs.map vP)) else if shP p = true ∧ shP (.lst xs) = true then some (xs.any fun z => eqP z p) else none
  | .rol xs => if flatP p = true ∧ xs.all flatP = true then some (inV (vP p) (xs.map vP)) else none
  | .tup xs => if flatP p = true ∧ xs.all flatP = true then some (inV (vP p) (xs.map vP)) else none
  | .dct kvs => match keyP p with
    | some k => some (hasK k kvs)
    | none => none
  | _ => none
def inO (d e : D) (st : Sr) : R (D × Sr) := match peek st d, peek st e with
  | some p, some q => match inB p q with
    | some b => .ok (.fz (.bl b), st)
    | none => .stuck
  | _, _ => .stuck
theorem toPys_any {p : P} : ∀ {xs : List P}, ((toPys xs).any fun z => PyData.eqv z (toPy p)) = xs.any fun z => eqP z p
  | [] => by unfold toPys; rfl
  | x :: r => by unfold toPys; rw [List.any_cons, List.any_cons, toPys_any]; rfl
theorem PkR.rp {K : PySem.W.Frag} {Z H : Hp} {p : P} {v : V} (s : Same Z H) (h : PkR K Z H p v) : Rep K H p v := h.rep s
theorem o_inG {op : CmpOp} {o : D → D → Sr → R (D × Sr)} {neg : Bool} (hu : X.A.units + 65 < cLine)
    (hop : ∀ (d e : D) (st : Sr), o d e st = match peek st d, peek st e with
      | some p, some q => match inB p q with
        | some b => .ok (.fz (.bl (if neg then !b else b)), st)
        | none => .stuck
      | _, _ => .stuck)
    (h1 : OpR X (compareOp op) (rIn X.K neg)) (h2 : OpR X (compareOp op) (fun x y H Q => ∃ d ds, Dp X.K H x d ∧ Dp X.K H y (.list ds) ∧ SeqAt.shaped d = true ∧ SeqAt.shaped (.list ds) = true ∧ Q (.bl (if neg then !(ds.any fun z => PyData.eqv z d) else ds.any fun z => PyData.eqv z d)) H))
    (h3 : ∀ (pins : List (Addr × Obj)) (s : Shared) (σ : St) (H : Hp) (a : Addr) (y : V) (u : Value) (r : Option V) (Q : VK), Inv X pins σ H s → DGet H a y r → RelV y u → Q (.bl (if neg then !r.isSome else r.isSome)) H → wpAny (model X.prog X.w) X.A (compareOp op u (.ref a)) (EP X pins σ Q) X.xe s) :
    OpR X (compareOp op) (rM X.K W o) := by
  intro pins s σ H x y v u Q I rx ry ⟨d, e, Z, φ, st, rs, rd, re, af⟩
  rw [hop] at af
  split at af
  · rename_i p q e1 e2
    split at af
    · rename_i bb e3
      have pd := peek_pk rs e1 rd
      have pe := peek_pk rs e2 re
      have fin := af.here rs (show RepD X.K Z φ (.fz (.bl (if neg then !bb else bb))) (.bl (if neg then !bb else bb)) from rep_bl)
      have flat : ∀ {xs : List P} {a : Addr} {vs : List V}, (SqL X.K H a vs ∨ SqT X.K H a vs) → Reps X.K Z xs vs → y = .ref a → flatP p = true ∧ xs.all flatP = true → bb = inV (vP p) (xs.map vP) → wpAny (model X.prog X.w) X.A (compareOp op v u) (EP X pins σ Q) X.xe s := by
        intro xs a vs hs hr hy hf hb
        subst hy
        obtain ⟨a1, a2⟩ := vP_rep (pd.rp rs.same) hf.1
        obtain ⟨b1, b2⟩ := vP_reps hr hf.2
        refine h1 pins s σ H _ _ v u Q I rx ry ⟨a, vs, rfl, hs, a2, b2, ?_⟩
        rw [a1, b1, ← hb]
        exact fin
      cases q with
      | lst xs =>
        obtain ⟨a, vs, hy, hh, hr⟩ := pe
        have e4 : (if flatP p = true ∧ xs.all flatP = true then some (inV (vP p) (xs.map vP)) else if shP p = true ∧ shP (.lst xs) = true then some (xs.any fun z => eqP z p) else none) = some bb := e3
        split at e4
        · rename_i hf; cases e4; exact flat (.inl (SqL.of hh)) hr hy hf rfl
        · split at e4
          · rename_i hf
            cases e4
            subst hy
            refine h2 pins s σ H _ _ v u Q I rx ry ⟨toPy p, toPys xs, Rep.dp _ _ (SeqAt.canLay_of_shaped hf.1) (pd.rp rs.same), ?_, hf.1, hf.2, ?_⟩
            · have := Rep.dp (.lst xs) (.ref a) (SeqAt.canLay_of_shaped hf.2) (by rw [Rep]; exact ⟨a, vs, rfl, hh, hr.mono rs.same⟩)
              exact this
            · rw [toPys_any]; exact fin
          · cases e4
      | rol xs =>
        obtain ⟨a, vs, hy, hh, hr⟩ := pe
        have e4 : (if flatP p = true ∧ xs.all flatP = true then some (inV (vP p) (xs.map vP)) else none) = some bb := e3
        split at e4
        · rename_i hf; cases e4; exact flat (.inl hh) hr hy hf rfl
        · cases e4
      | tup xs =>
        obtain ⟨a, vs, hy, hh, hr⟩ := pe
        have e4 : (if flatP p = true ∧ xs.all flatP = true then some (inV (vP p) (xs.map vP)) else none) = some bb := e3
        split at e4
        · rename_i hf; cases e4; exact flat (.inr hh) hr hy hf rfl
        · cases e4
      | dct kvs =>
        obtain ⟨a, kws, hy, hh, hr⟩ := pe
        have e4 : (match keyP p with | some k => some (hasK k kvs) | none => none) = some bb := e3
        split at e4
        · rename_i k ek
          cases e4
          subst hy
          have hx := keyP_rep (pd.rp rs.same) ek
          subst hx
          cases ry
          refine h3 pins s σ H a _ v _ Q I (DGet.k hh) rx ?_
          rw [hasK_ok hr]; exact fin
        · cases e4
      | _ => cases e3
    · exact af.elim
  · exact af.elim
theorem o_in (hu : X.A.units + 65 < cLine) : OpR X (compareOp .In) (rM X.K W inO) :=
  o_inG (neg := false) hu (fun _ _ _ => rfl) op_in_seq (op_inD hu) fun pins s σ H a y u r Q I g ry q => d_in (by omega) I g ry fun s' I' => ⟨.bl _, H, I', rfl, q⟩
end
end M
end
section
set_option Elab.async false
set_option linter.all false
set_option maxRecDepth 100000
set_option maxHeartbeats 0
namespace M
open PySem L2
section
variable {X : Cx} {W : WX} {a b e o i value : Expr} {es : List Expr} {f g h : DE} {fs : DA} {pos pos' p p1 p2 : Pos}
def rgO (d : D) (st : Sr) : R (D × Sr) := match d with
  | .fz (.int n) => if 0 ≤ n ∧ n ≤ 16777216 then .ok (.cell st.length, st ++ [.lst (rangeP 0 n.toNat)]) else .stuck
  | _ => .stuck
theorem rg_reps {K : PySem.W.Frag} {Z : Hp} {n : Int} (h0 : 0 ≤ n) : Reps K Z (rangeP 0 n.toNat) (rgV 0 n) := by
  refine Reps.of_get (by rw [rangeP_len, rgV_length]; omega) fun j q v h1 h2 => ?_
  have hj : j < n.toNat := by
    have := (List.getElem?_eq_some_iff.mp h1).1
    rw [rangeP_len] at this; exact this
  rw [rangeP_get hj] at h1
  cases h1
  unfold rgV at h2
  rw [List.getElem?_map, List.getElem?_range (by omega)] at h2
  cases h2
  rw [Rep]
theorem de_listRg (hc : X.calm = true) (hg : Gl X "list") (hm : X.mg "list" = none) (hgr : Gl X "range") (hmr : X.mg "range" = none) (ha : PE X a (tE X.K W f)) (na : starEach [a] X.env = (false, eval a X.env) :: starEach [] X.env := by rfl)
    (nb : starEach [.Call (.Name "range" p1) [a] [] p2] X.env = (false, eval (.Call (.Name "range" p1) [a] [] p2) X.env) :: starEach [] X.env := by rfl) : PE X (.Call (.Name "list" p) [.Call (.Name "range" p1) [a] [] p2] [] pos) (tE X.K W (dUn rgO f)) := by
  refine (pe_listRg hc hg hm (prg_1 hgr hmr ha na) nb).to fun σ H Q hh => ?_
  obtain ⟨Z, φ, η, st, rs, sl, af⟩ := hh
  refine ⟨Z, φ, η, st, rs, sl, af.bind.mono fun a Z' φ' H' t g' rs' v r => ?_⟩
  unfold rgO at g'
  split at g'
  · rename_i n en
    rw [en] at r
    obtain rfl := fz_int r
    split at g'
    · rename_i hz
      exact ⟨n, rfl, RgOk.of_le (Int.le_refl _) hz.2 (by decide) hz.1, fun q hq => g'.lst rs' hq (rg_reps hz.1)⟩
    · exact g'.elim
  · exact g'.elim
def sortO (ds : List D) (st : Sr) : R (D × Sr) := match ds with
  | [d] => match ((peek st d).bind itemsP).bind intsP with
    | some is => .ok (.cell st.length, st ++ [.lst ((is.mergeSort fun i j => decide (i ≤ j)).map P.int)])
    | none => .stuck
  | _ => .stuck
end
section
open PyProof.Rows
variable {prog : Program} {w : World} {A : Around} {E : Value → Shared → Prop} {s : Shared}
theorem sorted_seq {l : Addr} {o : Obj} {its : List Value} {n : Nat} {T : String} {is : List Int} {Q : Value → Shared → Prop} (hT : T = "list" ∨ T = "tuple") (ho : s.heap.get? l = some o) (hc : o.cls = .type T) (hd : o.data = .seq its.toArray n) (e : Vals (is.map V.int) its) (hL : is.length ≤ sizeLine) (hu : A.units + 3 < cLine)
    (h : ∀ h' p out ep, (∀ b u, s.heap.get? b = some u → h'.get? b = some u) → s.heap.get? p = none → h'.get? p = some (seqObj "list" (List.toArray out) ep) → Vals ((is.mergeSort fun i j => decide (i ≤ j)).map V.int) out → Q (.ref p) { s with heap := h' }) :
    wpAny (model prog w) A (call (.builtin "sorted") [.ref l]) Q E s := by
  have hlen : its.length = is.length := by have := e.length; rw [List.length_map] at this; exact this.symm
  refine call_function_entry_kw (kw := []) kind_sorted plain_sorted entry_sorted (args_sorted1 _) ?_
  unfold Builtin.«sorted»
  refine wpAny_bind (m := checkCount "sorted" 1 1 _) (wpAny_pure ?_)
  refine wpAny_bind (wpAny_collect_seq l hT ho hc hd (fun h₁ k₁ => ?_) (by rw [List.size_toArray, hlen]; exact hL))
  have hnew : s.heap.get? h₁.objs.size = none := by
    cases q : s.heap.get? h₁.objs.size with
    | none => rfl
    | some u => exact absurd (Heap.lt_size (k₁ _ _ q)) (Nat.lt_irrefl _)
  refine wpAny_bind (wpAny_newList ?_ (by simpa [hlen] using hL))
  have ha : (h₁.push (seqObj "list" its.toArray 0)).get? h₁.objs.size = some (seqObj "list" its.toArray 0) := Heap.get?_push_size _ rfl
  refine wpAny_bind (wpAny_holding ?_)
  refine PySem.W.list_sort_data (β := Int) (R := fun v i => ∃ t, v = .int i t) (enc := fun i => .int i) (vs := its) (bs := is) (s := { s with heap := h₁.push (seqObj "list" its.toArray 0) }) ha (each_ints e) ?_ (PySem.W.AllAlike.of fun _ _ => by simp [PySem.W.alike]) (PySem.W.Sortable.others fun _ => ⟨by simp, by simp⟩) hL (fun i _ => ?_) fun out hlo eo => ?_
  · exact (each_ints e).mono fun v i ⟨t, ht⟩ => ⟨[], by rw [ht]; exact .int _ _, by simp⟩
  · have hd0 : (PyData.int i).depth = 0 := by simp [PyData.depth]
    show A.in1.units + 1 + (PyData.int i).depth < cLine
    rw [hd0]
    show A.units + 1 + 1 + 0 < cLine
    omega
  · rw [PySem.W.dataLe_int] at eo
    obtain ⟨ep, hat⟩ := sortedHeap_at (vs := its) (out := List.toArray out) ha
    refine wpAny_pure ⟨_, rfl, h _ h₁.objs.size out ep (fun b u hb => ?_) hnew hat (ints_each eo)⟩
    have hb1 := Heap.get?_push_of_some (seqObj "list" its.toArray 0) (k₁ _ _ hb)
    have hne : b ≠ h₁.objs.size := Nat.ne_of_lt (Heap.lt_size (k₁ _ _ hb))
    rw [sortedHeap_old hne (Heap.lt_size hb1)]
    exact hb1
end
section
variable {X : Cx} {W : WX}
theorem c_sorted (hu : X.A.units + 3 < cLine) : CallR X (.builtin "sorted") (rMA X.K W sortO) := by
  intro pins s σ H xs us Q I r ⟨ds, Z, φ, st, rs, rdd, af⟩
  unfold sortO at af
  split at af
  · obtain ⟨v, rfl, rd⟩ := rdd.one
    split at af
    · rename_i is e
      obtain ⟨ys, e1, e2⟩ := Option.bind_eq_some_iff.mp e
      obtain ⟨q, e3, e4⟩ := Option.bind_eq_some_iff.mp e1
      obtain ⟨a, vs, rfl, h2, h3⟩ := pk_items (peek_pk rs e3 rd) e4
      rw [intsP_eq e2] at h3
      have hv := reps_ints h3
      subst hv
      rw [Vals.ref1 r]
      have fin : ∀ (h' : Heap) (p : Addr) (out : List Value) (ep : Nat), (∀ b u, s.heap.get? b = some u → h'.get? b = some u) → s.heap.get? p = none → h'.get? p = some (PyProof.Rows.seqObj "list" (List.toArray out) ep) → Vals ((is.mergeSort fun i j => decide (i ≤ j)).map V.int) out → is.length ≤ sizeLine → EP X pins σ Q (.ref p) { s with heap := h' } := by
        intro h' p out ep k hn hat hv hz
        have hp : H p = none := I.hok.gone hn
        refine ⟨.ref p, _, I.laidN (o := .lst ((is.mergeSort fun i j => decide (i ≤ j)).map V.int)) (t' := s.toks) k hn hp ⟨by rw [List.length_map, List.length_mergeSort]; exact hz, out, ep, hv, hat⟩, rfl, ?_⟩
        exact af.lst rs hp (ints_reps _)
      rcases h2 with h2 | h2
      · obtain ⟨its, rv, hl, hz⟩ := I.list h2
        obtain ⟨o, ho, hc, n, hd⟩ := hl.isList
        rw [List.length_map] at hz
        exact sorted_seq (.inl rfl) ho hc hd rv hz hu fun h' p out ep k hn hat hv => fin h' p out ep k hn hat hv hz
      · obtain ⟨its, rv, hl, hz⟩ := I.tuple h2
        obtain ⟨o, ho, hc, n, hd⟩ := hl
        rw [List.length_map] at hz
        exact sorted_seq (.inr rfl) ho hc hd rv hz hu fun h' p out ep k hn hat hv => fin h' p out ep k hn hat hv hz
    · exact af.elim
  · exact af.elim
end
end M
end
section
set_option Elab.async false
set_option linter.all false
set_option maxRecDepth 100000
set_option maxHeartbeats 0
namespace M
open PySem L2
inductive Ck where
  | fa (f : He.Fa)
  | mk0 (x : Str)
  | same (c g m : Str)
  | supm (c d m g : Str)
  | opq
  | xcls (c : Str)
  | xini (c f : Str)
  | xat (c : Str)
  | xgl
  | kitO (c t : Str) (b : Bool)
  | kitT (c : Str) (t : String) (b : Bool)
  | tab (p : Str × Option Str)
  | any (f : PySem.W.Frag → Bool)
def refsVEb (l : List Value) : Bool := PySem.HandSPX.refsVE l
def xclsB (K : PySem.W.Frag) (C : Addr) : Bool := (match K.lookup C with
  | some ⟨.type ty, _, .cls cd, sl⟩ => decide (ty = "type") && (match cd.mro, sl.toList with
    | .ref D :: bm, [k0, k1, k2, k3, some (.builtin n), k5] => decide (D = C) && (refsVEb bm && (cd.hasDict && (!cd.hasDel && decide (n = "ValueError.__new__"))))
    | _, _ => false)
  | _ => false) && (PySem.W.keepIn K (.ref C) && (decide (PySem.W.subIn K (.ref C) (.type "BaseException") = some true) && decide (PySem.W.typeIn K (.ref C) = some (.type "type"))))
def Ck.ok (K : PySem.W.Frag) : Ck → Bool
  | .fa f => f.ok K
  | .mk0 x => PySem.W.makesIn K (He.ga K x) && (He.eqO (PySem.W.findIn K (.ref (He.ga K x)) "__init__") (some (some (.builtin "object.__init__"))) && (decide (PySem.W.mroIn K (He.ga K x) (.type "object") = some true) && PySem.W.keepIn K (.ref (He.ga K x))))
  | .same c g m => decide (He.ma K (He.ga K c) m = He.ma K (He.ga K g) m)
  | .supm c d m g => decide (PySem.W.mroIn K (He.ga K c) (.ref (He.ga K d)) = some true) && (He.eqO (PySem.W.ks_superIn K (He.ga K c) (He.ga K d) m) (some (some (.ref (He.ma K (He.ga K g) m)))) && (decide (PySem.W.typeIn K (.ref (He.ma K (He.ga K g) m)) = some (.type "function")) && PySem.W.fnIn K (He.ma K (He.ga K g) m)))
  | .opq => He.eqO (PySem.W.nsIn K cStatics "thirdparty.any") (some none)
  | .xcls c => xclsB K (He.ga K c)
  | .xini c f => He.eqO (PySem.W.findIn K (.ref (He.ga K c)) "__setattr__") (some (some (.builtin "object.__setattr__"))) && (He.eqO (PySem.W.findIn K (.ref (He.ga K c)) f) (some none) && (He.eqO (PySem.W.findIn K (.ref (He.ga K c)) "__init__") (some (some (.ref (He.ma K (He.ga K c) "__init__")))) &&
      (decide (PySem.W.typeIn K (.ref (He.ma K (He.ga K c) "__init__")) = some (.type "function")) && (He.eqO (PySem.W.ks_superIn K (He.ga K c) (He.ga K c) "__init__") (some (some (.builtin "ValueError.__init__"))) && (decide (PySem.W.subIn K (.ref (He.ga K c)) (.type "ValueError") = some true) && decide (PySem.W.mroIn K (He.ga K c) (.ref (He.ga K c)) = some true))))))
  | .xat c => He.eqO (PySem.W.findIn K (.ref (He.ga K c)) "__getattribute__") (some (some (.builtin "BaseException.__getattribute__"))) && (He.eqO (PySem.W.findIn K (.ref (He.ga K c)) "__getattr__") (some none) && (decide (PySem.W.subIn K (.ref (He.ga K c)) (.type "BaseException") = some true) && (PySem.W.hasDictIn K (He.ga K c) &&
      (He.eqO (PySem.W.findIn K (.ref (He.ga K c)) "__class__") (some (some (.builtin "object.__class__"))) && decide (PySem.W.mroIn K (He.ga K c) (.type "object") = some true)))))
  | .xgl => He.eqO (PySem.W.specialIn K (.builtin "object.__class__") "__get__") (some (some (.builtin "getset_descriptor.__get__"))) && decide (PySem.W.takesIn K (.builtin "object.__class__") = some true)
  | .kitO c t b => decide (PySem.W.kitOne K (.ref (He.ga K c)) (.ref (He.ga K t)) = some b)
  | .kitT c t b => decide (PySem.W.kitOne K (.ref (He.ga K c)) (.type t) = some b)
  | .tab p => (match K.lookup (He.fAd K p) with
    | some o => (tabOf K o).isSome
    | none => false)
  | .any f => f K
section
variable {K : PySem.W.Frag}
open He (ba)
theorem same_ok {c g m : Str} (h : (Ck.same c g m).ok K = true) : He.ma K (He.ga K c) m = He.ma K (He.ga K g) m := of_decide_eq_true h
theorem opq_ok (h : Ck.opq.ok K = true) : PySem.W.nsIn K cStatics "thirdparty.any" = some none := He.eqO_ok h
theorem xcls_ok {c : Str} (h : (Ck.xcls c).ok K = true) : XCls K c (He.ga K c) := by
  obtain ⟨c1, c⟩ := ba h
  obtain ⟨c2, c⟩ := ba c
  obtain ⟨c3, c4⟩ := ba c
  refine ⟨?_, c2, of_decide_eq_true c3, of_decide_eq_true c4⟩
  split at c1
  · rename_i ty dd cd sl ho
    obtain ⟨d1, c1⟩ := ba c1
    split at c1
    · rename_i D bm k0 k1 k2 k3 n k5 hm hs
      obtain ⟨f1, f0⟩ := ba c1
      obtain ⟨e2, f0⟩ := ba f0
      obtain ⟨e3, f0⟩ := ba f0
      obtain ⟨e4, f5⟩ := ba f0
      have e1 := of_decide_eq_true f1
      have e5 := of_decide_eq_true f5
      have d2 := of_decide_eq_true d1
      rw [Bool.not_eq_true'] at e4
      clear f1 f5 d1 c1 c
      subst d2 e1 e5
      obtain ⟨nm, bs, mro, ns, qn, hd, sn, sub, ab, col, del⟩ := cd
      dsimp only at hm e3 e4
      subst hm e3 e4
      have hsl : sl = #[k0, k1, k2, k3, some (.builtin "ValueError.__new__"), k5] := by
        obtain ⟨l⟩ := sl
        simp only at hs
        rw [hs]
      subst hsl
      exact ⟨nm, qn, ns, bs, bm, sn, sub, ab, col, dd, k0, k1, k2, k3, k5, ho, e2⟩
    · cases c1
  · cases c1
theorem xat_ok {c : Str} (h : (Ck.xat c).ok K = true) : XAt K (He.ga K c) := by
  obtain ⟨c1, c⟩ := ba h
  obtain ⟨c2, c⟩ := ba c
  obtain ⟨c3, c⟩ := ba c
  obtain ⟨c4, c⟩ := ba c
  obtain ⟨c5, c6⟩ := ba c
  exact ⟨He.eqO_ok c1, He.eqO_ok c2, of_decide_eq_true c3, c4, He.eqO_ok c5, of_decide_eq_true c6⟩
end
structure DefC where
  cls : Str
  name : Str
  qual : Str
  params : Arguments
  body : List Stmt
  scope : Scope
abbrev FnC : Type := Option (Str × Str × Arguments × FuncBody × Scope × Addr × List Str × Addr)
def DefC.at_ (d : DefC) : Str × Option Str := (d.cls, some d.name)
def fnC (K : PySem.W.Frag) (p : Str × Option Str) : FnC := match K.lookup (He.fAd K p) with
  | some ⟨_, _, .func fd, _⟩ => some (fd.name, fd.qualname, fd.params, fd.body, fd.scope, fd.globals, fd.closure.map (·.1), fd.builtins)
  | _ => none
def DefC.val (d : DefC) : FnC := some (d.name, d.qual, d.params, .stmts d.body, d.scope, mainGlobals, ["__class__"], builtinsNs)
def cellB (K : PySem.W.Frag) (cc D : Addr) : Bool := match K.lookup cc with
  | some ⟨_, _, .cell (some (.ref E)), _⟩ => decide (E = D)
  | _ => false
def fileB (K : PySem.W.Frag) (cd : Value) (file : Str) : Bool := match cd with
  | .ref c => (match K.lookup c with
    | some ⟨_, _, .fields vs, _⟩ => (match (vs[2]? : Option Value) with
      | some (.str f _) => decide (f = file)
      | _ => false)
    | _ => false)
  | _ => false
def noneB : Value → Bool
  | .none => true
  | _ => false
def clB (K : PySem.W.Frag) (D : Addr) : List (Str × Addr) → Bool
  | [(_, cc)] => cellB K cc D
  | _ => false
def DefC.ok (K : PySem.W.Frag) (file : Str) (d : DefC) : Bool := PySem.W.keepIn K (.ref (He.fAd K d.at_)) && (PySem.W.isClsIn K (He.ga K d.cls) && (match K.lookup (He.fAd K d.at_) with
  | some ⟨_, _, .func fd, _⟩ => PySem.W.codeIn K fd.code d.qual && (fileB K fd.code file && (noneB fd.defaults && clB K (He.ga K d.cls) fd.closure))
  | _ => false))
theorem DefC.funC {K : PySem.W.Frag} {P : Program} {mg : Str → Option Value} {d : DefC} {file par : Str} (e : fnC K d.at_ = d.val) (c : d.ok K file = true) (hfile : ((P.main.file : Str) == file) = true) (opq : PySem.W.nsIn K cStatics "thirdparty.any" = some none)
    (top : (P.main.scope.names.lookup ("super" : Str)).isSome = false) (free : mg "super" = none) (hp : ∃ ar, (d.params.posonlyargs ++ d.params.args).head? = some ar ∧ ar.arg = par) :
    ∃ fd cda cc, FunC K P mg d.name d.qual d.params d.body d.scope par (He.ga K d.cls) (He.fAd K d.at_) fd cda cc ∧ ∃ oc od osl, K.lookup (He.fAd K d.at_) = some ⟨oc, od, .func fd, osl⟩ := by
  obtain ⟨kp, c2⟩ := He.ba c
  obtain ⟨hcl, c2⟩ := He.ba c2
  unfold fnC at e
  cases q : K.lookup (He.fAd K d.at_) with
  | none => rw [q] at c2; cases c2
  | some o =>
    obtain ⟨oc, od, dt, osl⟩ := o
    rw [q] at c2 e
    cases dt with
    | func fd =>
      obtain ⟨n1, n2, n3, n4, n5, n6, n7, n8, n9, n10, n11, n12, n13, n14, n15⟩ := fd
      have e2 : (some (n1, n2, n3, n4, n5, n6, n7.map (·.1), n15) : FnC) = some (d.name, d.qual, d.params, FuncBody.stmts d.body, d.scope, mainGlobals, [("__class__" : Str)], builtinsNs) := e
      simp only [Option.some.injEq, Prod.mk.injEq] at e2
      obtain ⟨h1, h2, h3, h4, h5, h6, h7, h8⟩ := e2
      subst h1 h2 h3 h4 h5 h6 h8
      have c3 : (PySem.W.codeIn K n13 d.qual && (fileB K n13 file && (noneB n8 && clB K (He.ga K d.cls) n7))) = true := c2
      obtain ⟨k1, kr⟩ := He.ba c3
      obtain ⟨k2, ks⟩ := He.ba kr
      obtain ⟨k3, k4⟩ := He.ba ks
      clear kr ks c3
      have hn8 : n8 = .none := by
        cases n8 <;> first | rfl | cases k3
      subst hn8
      match n7, k4, h7, q with
      | [(nm, cc)], k4, h7, q =>
        have hnm : nm = "__class__" := (List.cons.inj h7).1
        subst hnm
        have k4 : cellB K cc (He.ga K d.cls) = true := k4
        obtain ⟨cl, cld, csl, hcell⟩ : ∃ cl cld csl, K.lookup cc = some ⟨cl, cld, .cell (some (.ref (He.ga K d.cls))), csl⟩ := by
          unfold cellB at k4
          split at k4
          · rename_i a b E s hk
            have := of_decide_eq_true k4
            subst this
            exact ⟨a, b, s, hk⟩
          · cases k4
        cases n13 with
        | ref cda =>
          obtain ⟨ccl, cdd, vs, ccs, f, tf, hcode, hvs, hf⟩ : ∃ ccl cdd vs ccs f tf, K.lookup cda = some ⟨ccl, cdd, .fields vs, ccs⟩ ∧ vs[2]? = some (.str f tf) ∧ f = file := by
            have k2' : (match K.lookup cda with
              | some ⟨_, _, .fields vs, _⟩ => (match (vs[2]? : Option Value) with
                | some (.str f _) => decide (f = file)
                | _ => false)
              | _ => false) = true := k2
            split at k2'
            · rename_i a b vs s hk
              split at k2'
              · rename_i f t hv
                exact ⟨a, b, vs, s, f, t, hk, hv, of_decide_eq_true k2'⟩
              · cases k2'
            · cases k2'
          subst hf
          obtain ⟨ar, ha1, ha2⟩ := hp
          obtain ⟨cd, hcd⟩ := Option.isSome_iff_exists.mp (show (PySem.W.clsIn K (He.ga K d.cls)).isSome = true from hcl)
          exact ⟨_, cda, cc, ⟨⟨oc, od, n9, n10, n11, n12, n14, osl, rfl, q, k1⟩, ⟨⟨oc, od, _, osl, ar, q, ha1, ha2⟩, ⟨ccl, cdd, vs, ccs, f, tf, hcode, hvs, hfile⟩, ⟨cl, cld, csl, hcell⟩, ⟨cd, hcd⟩, opq, top, free⟩, kp⟩, oc, od, osl, by first | exact q | rfl⟩
        | _ => cases k2
      | [], k4, _, _ => cases k4
      | _ :: _ :: _, k4, _, _ => cases k4
    | _ => cases c2
structure DefG where
  adr : PySem.W.Frag → Addr
  name : Str
  qual : Str
  params : Arguments
  body : List Stmt
  scope : Scope
  kwd : List (Str × He.Dv) := []
def fnG (K : PySem.W.Frag) (a : Addr) : He.FnW := match K.lookup a with
  | some ⟨_, _, .func fd, _⟩ => some (fd.name, fd.qualname, fd.params, fd.body, fd.scope, fd.globals, fd.closure, fd.builtins)
  | _ => none
def DefG.val (d : DefG) : He.FnW := some (d.name, d.qual, d.params, .stmts d.body, d.scope, mainGlobals, [], builtinsNs)
def DefG.kws (K : PySem.W.Frag) (d : DefG) : List (Str × V) := d.kwd.map fun q => (q.1, q.2.v K)
def DefG.ok (K : PySem.W.Frag) (d : DefG) : Bool := PySem.W.keepIn K (.ref (d.adr K)) && (match K.lookup (d.adr K) with
  | some ⟨_, _, .func fd, _⟩ => PySem.W.codeIn K fd.code d.qual && (He.dflB K fd.defaults [] && He.kwdB K fd.kwdefaults (d.kws K))
  | _ => false)
def codeHdB (K : PySem.W.Frag) (c P : Addr) : Bool := match K.lookup c with
  | some ⟨.type ty, _, .fields vs, _⟩ => decide (ty = "code") && ((match (vs[11]? : Option Value) with | some (.ref Q) => decide (Q = P) | _ => false) && ((match vs.getD 18 .none with | .str _ _ => true | _ => false) && ((match vs.getD 7 .none with | .int _ _ => true | _ => false) &&
      ((match vs.getD 9 .none with | .bool _ => true | _ => false) && ((match vs.getD 10 .none with | .int _ _ => true | _ => false) && decide (c ≠ P))))))
  | _ => false
theorem codeHdB_ok {K : PySem.W.Frag} {h : Heap} {c P : Addr} (X : K.In h) (e : codeHdB K c P = true) : PySem.W.CodeHd h c P := by
  unfold codeHdB at e
  split at e
  · rename_i ty dd vs sl hk
    obtain ⟨e1, e⟩ := He.ba e
    obtain ⟨e2, e⟩ := He.ba e
    obtain ⟨e3, e⟩ := He.ba e
    obtain ⟨e4, e⟩ := He.ba e
    obtain ⟨e5, e⟩ := He.ba e
    obtain ⟨e6, e7⟩ := He.ba e
    have e1 := of_decide_eq_true e1
    subst e1
    have e7 := of_decide_eq_true e7
    split at e2
    · rename_i Q hQ
      have e2 := of_decide_eq_true e2
      subst e2
      split at e3
      · rename_i f tf h18
        split at e4
        · rename_i fl tg h7
          split at e5
          · rename_i b h9
            split at e6
            · rename_i tx tt h10
              have hQ2 : vs.getD 11 .none = .ref Q := by
                rw [Array.getD_eq_getD_getElem?, hQ]; rfl
              exact ⟨_, vs, f, tf, fl, tg, b, tx, tt, X _ _ hk, rfl, rfl, hQ, hQ2, h18, h7, h9, h10, e7⟩
            · cases e6
          · cases e5
        · cases e4
      · cases e3
    · cases e2
  · cases e
def emptyTabB : Option Obj → Bool
  | some ⟨.none, none, .fields vs, sl⟩ => decide (vs.size = 0) && decide (sl.size = 0)
  | _ => false
theorem emptyTabB_ok {o : Option Obj} (h : emptyTabB o = true) : o = some { cls := .none, data := .fields #[] } := by
  unfold emptyTabB at h
  split at h
  · rename_i vs sl
    obtain ⟨h1, h2⟩ := He.ba h
    have h1 := of_decide_eq_true h1
    have h2 := of_decide_eq_true h2
    rw [Array.eq_empty_of_size_eq_zero h1, Array.eq_empty_of_size_eq_zero h2]
  · cases h
def tabsB (K : PySem.W.Frag) (g : Addr → Option Obj) : Bool := (tabsAll K).all fun t => codeHdB K t.1 t.2.1 && ((K.lookup t.2.1).isNone && (emptyTabB (g t.2.1) && (tabsAll K).all fun u => decide (u.2.1 = t.2.1 → u.2.2 = t.2.2)))
structure Wants where
  fa : List He.Fa
  ck : List Ck
  fn : List He.DefD
  cf : List DefC
  file : Str
  gf : List DefG := []
abbrev AlM : Type := He.AlD × Bool × Bool × Bool × List FnC × Bool × List He.FnW
def obsM (q : Wants) (K : PySem.W.Frag) (g : Addr → Option Obj) : AlM := (He.obsD q.fa q.fn K, q.ck.all (fun c => c.ok K), q.cf.all (fun d => d.ok K q.file), tabsB K g, (q.cf.map fun d => fnC K d.at_), q.gf.all (fun d => d.ok K), q.gf.map fun d => fnG K (d.adr K))
def valM (q : Wants) : AlM := (He.valD q.fn, true, true, true, q.cf.map DefC.val, true, q.gf.map DefG.val)
structure SaysM (q : Wants) (K : PySem.W.Frag) (h : Heap) : Prop where
  kin : K.In h
  d : He.SaysD q.fa q.fn K
  ck : q.ck.all (fun c => c.ok K) = true
  cf : q.cf.all (fun d => d.ok K q.file) = true
  fc : q.cf.map (fun d => fnC K d.at_) = q.cf.map DefC.val
  gk : q.gf.all (fun d => d.ok K) = true
  gc : q.gf.map (fun d => fnG K (d.adr K)) = q.gf.map DefG.val
  th : ∀ t ∈ tabsAll K, codeHdB K t.1 t.2.1 = true ∧ K.lookup t.2.1 = none ∧ h.get? t.2.1 = some { cls := .none, data := .fields #[] } ∧ ∀ u ∈ tabsAll K, u.2.1 = t.2.1 → u.2.2 = t.2.2
theorem saysM_of {q : Wants} {K : PySem.W.Frag} {h : Heap} (X : K.In h) (e : obsM q K h.get? = valM q) : SaysM q K h := by
  have e1 : He.obsD q.fa q.fn K = He.valD q.fn := congrArg (fun z : AlM => z.1) e
  have e2 : q.ck.all (fun c => c.ok K) = true := congrArg (fun z : AlM => z.2.1) e
  have e3 : q.cf.all (fun d => d.ok K q.file) = true := congrArg (fun z : AlM => z.2.2.1) e
  have e4 : tabsB K h.get? = true := congrArg (fun z : AlM => z.2.2.2.1) e
  have e5 : q.cf.map (fun d => fnC K d.at_) = q.cf.map DefC.val := congrArg (fun z : AlM => z.2.2.2.2.1) e
  have e6 : q.gf.all (fun d => d.ok K) = true := congrArg (fun z : AlM => z.2.2.2.2.2.1) e
  have e7 : q.gf.map (fun d => fnG K (d.adr K)) = q.gf.map DefG.val := congrArg (fun z : AlM => z.2.2.2.2.2.2) e
  refine ⟨X, e1, e2, e3, e5, e6, e7, fun t ht => ?_⟩
  have := List.all_eq_true.mp e4 t ht
  obtain ⟨a1, a2⟩ := He.ba this
  obtain ⟨a2, a3⟩ := He.ba a2
  obtain ⟨a3, a4⟩ := He.ba a3
  exact ⟨a1, by simpa using a2, emptyTabB_ok a3, fun u hu => of_decide_eq_true (List.all_eq_true.mp a4 u hu)⟩
theorem SaysM.keeps {q : Wants} {K : PySem.W.Frag} {h h' : Heap} (s : SaysM q K h) (k : ∀ b o, h.get? b = some o → h'.get? b = some o) : SaysM q K h' :=
  ⟨PySem.W.Frag.In.keeps s.kin k, s.d, s.ck, s.cf, s.fc, s.gk, s.gc, fun t ht => let ⟨a, b, c, d⟩ := s.th t ht; ⟨a, b, k _ _ c, d⟩⟩
section
variable {q : Wants} {K : PySem.W.Frag} {h : Heap}
theorem SaysM.ckf (s : SaysM q K h) (i : Nat) {c : Ck} (e : q.ck[i]? = some c := by rfl) : c.ok K = true := List.all_eq_true.mp s.ck c (List.mem_of_getElem? e)
theorem SaysM.fnc (s : SaysM q K h) (i : Nat) {d : DefC} (e : q.cf[i]? = some d) : fnC K d.at_ = d.val ∧ d.ok K q.file = true := by
  refine ⟨?_, List.all_eq_true.mp s.cf d (List.mem_of_getElem? e)⟩
  have e2 : (q.cf.map fun d => fnC K d.at_)[i]? = (q.cf.map DefC.val)[i]? := by rw [s.fc]
  rw [List.getElem?_map, List.getElem?_map, e] at e2
  exact Option.some.inj e2
end
theorem walk_ofM {l : PySem.W.OpenLaw} {n k : Nat} {q : Program} {loose : List Str} {XP : (Str → Option Value) → Heap → Prop} {YP : World → Heap → Prop} {d : DefRec} {x : Str}
    (hn : l.most = some n) (hn2 : n ≤ sizeLine) (hdf : d.params.defaults = []) (hr : Room k callerA)
    (F : ∀ (w : World) (mg : Str → Option Value) (fa : Addr) (h : Heap), YP w h → h.Ns mainGlobals mg → mg d.name = some (.ref fa) →
      ∃ (K : PySem.W.Frag) (fd : FuncData) (G : DF), K.In h ∧ (∀ t ∈ tabsAll K, codeHdB K t.1 t.2.1 = true ∧ K.lookup t.2.1 = none ∧ h.get? t.2.1 = some { cls := .none, data := .fields #[] } ∧ ∀ u ∈ tabsAll K, u.2.1 = t.2.1 → u.2.2 = t.2.2) ∧
        (∀ (s : Shared) (u : Value), BindsTo s fd ⟨[u], []⟩ [(x, u)]) ∧
        (∀ (ns : List Int), ns.length ≤ n → (∀ z ∈ ns, Builtin.Int.intBits z ≤ 1048576) → ∃ st, G [.fz (.rol (ns.map P.int))] [] = .ok (.fz (.bl true), st)) ∧
        ∀ base : Heap, K.In base → base.Ns mainGlobals mg → (∀ t ∈ tabsAll K, LamX.TabB base mg t.1 t.2.1) → FnOk l.prog w K mg base (L2.CX l.prog w) k fa fd [x] (spF K G))
    : PySem.W.WalkO q loose XP YP l.row.toRowW d [] (fun f vs => PySem.call f vs) := by
  refine Att.attach_callB hn hdf fun w s₀ s₁ mg mb fa o pm cd doc a vs ns G Y ho hd hcd hmg hobj hints hlen hbits hg => ?_
  obtain ⟨K, fd, DF_, KX, th, hb, hsp, hF⟩ := F w mg fa _ Y G.T.g hmg
  have mem : ∀ p ∈ (tabsAll K).map (fun t => (t.1, t.2.1)), ∃ t ∈ tabsAll K, p = (t.1, t.2.1) := fun p hp => by
    obtain ⟨t, ht, e⟩ := List.mem_map.mp hp
    exact ⟨t, ht, e.symm⟩
  refine LamX.law_callTs (cs := (tabsAll K).map fun t => (t.1, t.2.1)) (CX := L2.CX l.prog w) (sp := spF K DF_) KX G.T.g G.T.b G.T.builtins G.T.nolimit hg (fun p hp => ?_) (fun p hp => ?_) (fun p hp => ?_) G.T.bmain hobj hints (Nat.le_trans hlen hn2) hr (fun base hK hN hT => ?_) hb (fun H hH hS => ?_) fun H e s' z => ?_
  · obtain ⟨t, ht, rfl⟩ := mem p hp; exact (th t ht).2.2.1
  · obtain ⟨t, ht, rfl⟩ := mem p hp; exact (th t ht).2.1
  · obtain ⟨t, ht, rfl⟩ := mem p hp; exact codeHdB_ok KX (th t ht).1
  · exact hF base hK hN fun t ht => hT (t.1, t.2.1) (List.mem_map.mpr ⟨t, ht, rfl⟩)
  · obtain ⟨st, e⟩ := hsp ns hlen hbits
    let Z : Hp := fun b => match H b with
      | some (.tbl _) => none
      | o => o
    have sz : Same Z H := fun b o hb => by
      have hb' : (match H b with | some (.tbl _) => none | o => o) = some o := hb
      split at hb'
      · cases hb'
      · exact hb'
    have sq : SqL K Z a (ns.map V.int) := by
      rcases hS with (h1 | ⟨o, h1⟩) | h1
      · refine .inl (.inl ?_)
        show (match H a with | some (.tbl _) => none | o => o) = _
        rw [h1]
      · refine .inl (.inr ⟨o, ?_⟩)
        show (match H a with | some (.tbl _) => none | o => o) = _
        rw [h1]
      · exact .inr h1
    refine ⟨Z, [], [], [.fz (.rol (ns.map P.int))], ⟨sz, rfl, by simp, fun i b c hi => by simp at hi, fun p hp => ?_, fun b ps hb => ?_⟩, ⟨.ref a, [], rfl, ?_, rfl⟩, ?_⟩
    · obtain ⟨t, ht, rfl⟩ := List.mem_map.mp hp
      exact LamX.TabS.nil (hH (t.1, t.2.1) (List.mem_map.mpr ⟨t, ht, rfl⟩))
    · have hb' : (match H b with | some (.tbl _) => none | o => o) = some (.tbl ps) := hb
      split at hb'
      · cases hb'
      · rename_i hne; exact hne ps hb'
    · show Rep K Z (.rol (ns.map P.int)) (.ref a)
      rw [Rep]
      exact ⟨a, _, rfl, sq, ints_reps ns⟩
    · rw [e]
      intro Z' φ' H' t rs' v r
      exact fz_bl r
  · exact cx_none z
where
  cx_none {P : Program} {w : World} {H : Hp} {s : Shared} {e : Value} {s' : Shared} (z : L2.CX P w [] H s (fun _ _ _ => False) e s') : False := by
    obtain ⟨_, _, _, _, _, _, _, _, _, _, _, _, q⟩ := z
    exact q
end M
end
section
set_option Elab.async false
set_option linter.all false
set_option maxRecDepth 100000
set_option maxHeartbeats 0
namespace M
open PySem L2
theorem frag_mem {a : Addr} {o : Obj} : ∀ {K : PySem.W.Frag}, K.lookup a = some o → (a, o) ∈ K
  | (b, u) :: r, h => by
    rw [List.lookup_cons] at h
    cases q : a == b with
    | true => rw [q] at h; cases h; rw [beq_iff_eq.mp q]; exact List.mem_cons_self
    | false => rw [q] at h; exact List.mem_cons_of_mem _ (frag_mem h)
def inCls (s : Stmt) (j : Nat) : Stmt := match s with
  | .ClassDef _ _ _ b _ _ _ _ _ _ _ => b.getD j (.Pass ⟨0, 0, 0, 0⟩)
  | _ => .Pass ⟨0, 0, 0, 0⟩
section
variable {P : Program} {w : World} {K : PySem.W.Frag} {mg : Str → Option Value} {base : Heap}
theorem fnOk_mono {CX : CXT} {j k : Nat} {f : Addr} {fd : FuncData} {ps : List Str} {sp : Sp} (F : FnOk P w K mg base CX j f fd ps sp) (h : j ≤ k) : FnOk P w K mg base CX k f fd ps sp := ⟨F.len, fun A outer s H args us vs Q E hr => F.run A outer s H args us vs Q E (hr.mono h)⟩
theorem tab_nil {Q : Str → DF → Prop} : ∀ c F, (c, F) ∈ ([] : List (Str × DF)) → Q c F := fun _ _ h => by cases h
theorem tab_cons {Q : Str → DF → Prop} {c : Str} {F : DF} {l : List (Str × DF)} (h : Q c F) (r : ∀ c F, (c, F) ∈ l → Q c F) : ∀ c' F', (c', F') ∈ (c, F) :: l → Q c' F' := fun c' F' hm => by
  rcases List.mem_cons.mp hm with e | e
  · cases e; exact h
  · exact r _ _ e
theorem methT_of {k j : Nat} {g c m : Str} {ps : List Str} {F : DF} (o : Okd P w K mg base j (g, some m) ps F) (hc : Cls K (He.ga K c)) (hm : Meth K (He.ga K c) m (He.ma K (He.ga K c) m)) (he : He.ma K (He.ga K c) m = He.ma K (He.ga K g) m) (h : j ≤ k := by decide) : MethT P w K mg base k m ps c F := by
  obtain ⟨fd, h1, h2⟩ := o.ex
  refine ⟨_, fd, hc, hm, ?_, h2⟩
  rw [he]
  exact fnOk_mono h1 h
/-- the table of a def that makes a lambda -/
theorem tab_at {d : DefC} {fd : FuncData} {cda : Addr} (h : fd.qualname = d.qual ∧ fd.code = .ref cda ∧ ∃ oc od osl, K.lookup (He.fAd K d.at_) = some ⟨oc, od, .func fd, osl⟩) (hl : lamDefs.contains d.qual = true) (hc : (Ck.tab d.at_).ok K = true)
    (tb : ∀ t ∈ tabsAll K, LamX.TabB base mg t.1 t.2.1) (un : ∀ t ∈ tabsAll K, ∀ u ∈ tabsAll K, u.2.1 = t.2.1 → u.2.2 = t.2.2) :
    ∃ P, LamX.TabB base mg cda P ∧ (P, d.qual ++ ".<locals>." ++ "<lambda>") ∈ tabsOf K ∧ ∀ p ∈ tabsOf K, p.1 = P → p.2 = d.qual ++ ".<locals>." ++ "<lambda>" := by
  obtain ⟨h1, h2, oc, od, osl, lk⟩ := h
  have hc2 : (match K.lookup (He.fAd K d.at_) with
    | some o => (tabOf K o).isSome
    | none => false) = true := hc
  rw [lk] at hc2
  have hc3 : (tabOf K ⟨oc, od, .func fd, osl⟩).isSome = true := hc2
  obtain ⟨P, hP⟩ : ∃ P, tabOf K ⟨oc, od, .func fd, osl⟩ = some (cda, P, d.qual ++ ".<locals>." ++ "<lambda>") := by
    unfold tabOf at hc3 ⊢
    dsimp only at hc3 ⊢
    rw [h1, if_pos hl, h2] at hc3
    rw [h1, if_pos hl, h2]
    dsimp only at hc3 ⊢
    split at hc3
    · rename_i a b vs sl hk
      split at hc3
      · rename_i Q hQ
        exact ⟨Q, rfl⟩
      · cases hc3
    · cases hc3
  have hm : (cda, P, d.qual ++ ".<locals>." ++ "<lambda>") ∈ tabsAll K := List.mem_filterMap.mpr ⟨_, frag_mem lk, hP⟩
  refine ⟨P, tb _ hm, List.mem_map.mpr ⟨_, hm, rfl⟩, fun p hp he => ?_⟩
  obtain ⟨u, hu, rfl⟩ := List.mem_map.mp hp
  exact un _ hm u hu he
/-- an error class with one field -/
theorem xok_of {d : DefC} {x c f msg : Str} {j : Nat} {a1 a2 a3 a4 a5 a6 b1 b2 b3 b4 : Pos} {pl : Sem Bool} (h : ∃ fd cda cc, FunC K P mg d.name d.qual d.params d.body d.scope "self" (He.ga K d.cls) (He.fAd K d.at_) fd cda cc ∧ ∃ oc od osl, K.lookup (He.fAd K d.at_) = some ⟨oc, od, .func fd, osl⟩) (hn : d.name = "__init__") (hc : d.cls = c)
    (hbd : d.body = exB f msg j a1 a2 a3 a4 a5 a6 b1 b2 b3 b4) (S : XScope f d.params d.scope) (xc : (Ck.xcls c).ok K = true) (xi : (Ck.xini c f).ok K = true) (xa : (Ck.xat c).ok K = true) (gC : mg x = some (.ref (He.ga K c)))
    (hev : ∀ env : Env, eval (.Call (.Attribute (.Call (.Name "super" a1) [] [] a2) "__init__" a3) [.Constant (.str msg) j a4] [] a5) env = (do
      let ov ← attributeBase (.Call (.Name "super" a1) [] [] a2) "__init__" env (eval (.Call (.Name "super" a1) [] [] a2) env)
      standAt a3.atName
      let (f, first) ← holding [ov] (getMethod ov "__init__" pl)
      callWith a5 f first (backTo a5 (starEach [.Constant (.str msg) j a4] env)) []))
    (hbind : ∀ (s : Shared) (u v kV doc pm ct : Value) (an : Option Addr) (cc cda : Addr), BindsTo s (PySem.W.fnX "__init__" d.qual d.params (exB f msg j a1 a2 a3 a4 a5 a6 b1 b2 b3 b4) d.scope [("__class__", cc)] .none kV doc pm an (.ref cda) ct) ⟨[u, v], []⟩ [("self", u), (f, v)]) :
    XOk P K mg x c f := by
  obtain ⟨fd, cda, cc, F, _⟩ := h
  obtain ⟨cls, nm, qual, params, body, scope⟩ := d
  dsimp only at hn hc hbd F S hbind
  subst hn hc hbd
  obtain ⟨i1, q⟩ := He.ba xi
  obtain ⟨i2, q⟩ := He.ba q
  obtain ⟨i3, q⟩ := He.ba q
  obtain ⟨i4, q⟩ := He.ba q
  obtain ⟨i5, q⟩ := He.ba q
  obtain ⟨i6, i7⟩ := He.ba q
  have A := xat_ok xa
  exact ⟨⟨msg, qual, params, scope, _, cda, cc, fd, j, a1, a2, a3, a4, a5, a6, b1, b2, b3, b4, pl, ⟨xcls_ok xc, He.eqO_ok i1, He.eqO_ok i2, He.eqO_ok i3, of_decide_eq_true i4, He.eqO_ok i5, of_decide_eq_true i6, of_decide_eq_true i7, A.ga, A.gg, A.hdC, F⟩, S, hev, fun s u v kV doc pm ct an => hbind s u v kV doc pm ct an cc cda⟩, gC⟩
end
theorem bt_sorted : bootBuiltins "sorted" = some (.builtin "sorted") := by decide +kernel
theorem bt_bool : bootBuiltins "bool" = some (.type "bool") := by decide +kernel
theorem bt_str : bootBuiltins "str" = some (.type "str") := by decide +kernel
theorem _root_.L2.Room.u64 {k : Nat} {A : Around} (h : Room k A) : A.units + 64 < cLine := by have := h.un; omega
theorem _root_.L2.Room.u65 {k : Nat} {A : Around} (h : Room k A) : A.units + 65 < cLine := by have := h.un; omega
theorem _root_.L2.Room.u3 {k : Nat} {A : Around} (h : Room k A) : A.units + 3 < cLine := by have := h.un; omega
end M
end
section
set_option Elab.async false
set_option linter.all false
set_option maxRecDepth 100000
set_option maxHeartbeats 0
namespace M
open PySem PySem.Spec PyProof.Rows L2
theorem any_ok {K : PySem.W.Frag} {f : PySem.W.Frag → Bool} (h : (Ck.any f).ok K = true) : f K = true := h
def dAndV (f g : DE) : DE := fun η st => (f η st).bind fun a => match a.1 with
  | .fz (.bl c) => if c = true then g η a.2 else .ok (.fz (.bl false), a.2)
  | _ => .stuck
def dOrV (f g : DE) : DE := fun η st => (f η st).bind fun a => match a.1 with
  | .fz (.bl c) => if c = true then .ok (.fz (.bl true), a.2) else g η a.2
  | _ => .stuck
def dNotV (f : DE) : DE := fun η st => (f η st).bind fun a => match a.1 with
  | .fz (.bl c) => .ok (.fz (.bl (!c)), a.2)
  | _ => .stuck
section
variable {X : Cx} {W : WX} {a b : Expr} {rest : List Expr} {pos : Pos} {f g : DE}
theorem de_one {op : BoolOp} (h : PE X a (tE X.K W f)) : PE X (.BoolOp op [a] pos) (tE X.K W f) := pe_one h
theorem de_and (ha : PE X a (tE X.K W f)) (hb : PE X (.BoolOp .And (b :: rest) pos) (tE X.K W g)) : PE X (.BoolOp .And (a :: b :: rest) pos) (tE X.K W (dAndV f g)) := by
  refine (pe_and ha hb).to fun σ H Q hh => ?_
  obtain ⟨Z, φ, η, st, rs, sl, af⟩ := hh
  refine ⟨Z, φ, η, st, rs, sl, af.bind.mono fun a Z' φ' H' t g' rs' v r => ?_⟩
  split at g'
  · rename_i c ec
    rw [ec] at r
    obtain rfl := fz_bl r
    refine ⟨c, rfl, ?_⟩
    split at g'
    · rename_i hc; rw [if_pos hc]; exact ⟨Z', φ', η, _, rs', sl.mono t, g'⟩
    · rename_i hc; rw [if_neg hc]; exact g'.here rs' rep_bl
  · exact g'.elim
theorem de_or (ha : PE X a (tE X.K W f)) (hb : PE X (.BoolOp .Or (b :: rest) pos) (tE X.K W g)) : PE X (.BoolOp .Or (a :: b :: rest) pos) (tE X.K W (dOrV f g)) := by
  refine (pe_or ha hb).to fun σ H Q hh => ?_
  obtain ⟨Z, φ, η, st, rs, sl, af⟩ := hh
  refine ⟨Z, φ, η, st, rs, sl, af.bind.mono fun a Z' φ' H' t g' rs' v r => ?_⟩
  split at g'
  · rename_i c ec
    rw [ec] at r
    obtain rfl := fz_bl r
    refine ⟨c, rfl, ?_⟩
    split at g'
    · rename_i hc; rw [if_pos hc]; exact g'.here rs' rep_bl
    · rename_i hc; rw [if_neg hc]; exact ⟨Z', φ', η, _, rs', sl.mono t, g'⟩
  · exact g'.elim
theorem de_not (ha : PE X a (tE X.K W f)) : PE X (.UnaryOp .Not a pos) (tE X.K W (dNotV f)) := by
  refine (pe_not ha).to fun σ H Q hh => ?_
  obtain ⟨Z, φ, η, st, rs, sl, af⟩ := hh
  refine ⟨Z, φ, η, st, rs, sl, af.bind.mono fun a Z' φ' H' t g' rs' v r => ?_⟩
  split at g'
  · rename_i c ec
    rw [ec] at r
    obtain rfl := fz_bl r
    exact ⟨c, rfl, g'.here rs' rep_bl⟩
  · exact g'.elim
end
mutual
def repB (K : PySem.W.Frag) : P → V → Bool
  | .non, .non => true
  | .bl b, .bl c => b == c
  | .int i, .int j => decide (i = j)
  | .str x, .str y => decide (x = y)
  | .tup xs, .ref a => (match K.lookup a with
    | some ⟨.type ty, _, .seq its _, _⟩ => decide (ty = "tuple") && (decide (its.size ≤ sizeLine) && repsB K xs its.toList)
    | _ => false)
  | _, _ => false
def repsB (K : PySem.W.Frag) : List P → List Value → Bool
  | [], [] => true
  | p :: ps, u :: us => (match absV u with
    | some v => He.relB v u && repB K p v
    | none => false) && repsB K ps us
  | _, _ => false
end
open He (ba)
mutual
theorem repB_ok {K : PySem.W.Frag} {Z : Hp} : ∀ (p : P) (v : V), repB K p v = true → Rep K Z p v
  | .non, v, h => by cases v <;> first | rfl | (unfold repB at h; cases h)
  | .bl b, v, h => by
    cases v <;> first | (unfold repB at h; cases h; done) | skip
    rename_i c
    have e : b = c := beq_iff_eq.mp (by simpa [repB] using h)
    rw [Rep, e]
  | .int i, v, h => by
    cases v <;> first | (unfold repB at h; cases h; done) | skip
    rename_i c
    have e : i = c := by simpa [repB] using h
    rw [Rep, e]
  | .str i, v, h => by
    cases v <;> first | (unfold repB at h; cases h; done) | skip
    rename_i c
    have e : i = c := by simpa [repB] using h
    rw [Rep, e]
  | .tup xs, v, h => by
    cases v <;> first | (unfold repB at h; cases h; done) | skip
    rename_i a
    unfold repB at h
    split at h
    · rename_i ty d its n sl hl
      obtain ⟨h1, h2⟩ := ba h
      obtain ⟨h2, h3⟩ := ba h2
      obtain ⟨vs, r1, r2⟩ := repsB_ok xs its.toList h3
      rw [Rep]
      exact ⟨a, vs, rfl, .inr ⟨_, its, n, hl, by rw [of_decide_eq_true h1], rfl, of_decide_eq_true h2, r1⟩, r2⟩
    · cases h
  | .lst xs, v, h => by unfold repB at h; cases v <;> cases h
  | .rol xs, v, h => by unfold repB at h; cases v <;> cases h
  | .dct xs, v, h => by unfold repB at h; cases v <;> cases h
  | .obj c xs, v, h => by unfold repB at h; cases v <;> cases h
  | .cls c, v, h => by unfold repB at h; cases v <;> cases h
theorem repsB_ok {K : PySem.W.Frag} {Z : Hp} : ∀ (ps : List P) (us : List Value), repsB K ps us = true → ∃ vs, Vals vs us ∧ Reps K Z ps vs
  | [], [], _ => ⟨[], .nil, Reps.nil⟩
  | [], _ :: _, h => by unfold repsB at h; cases h
  | _ :: _, [], h => by unfold repsB at h; cases h
  | p :: ps, u :: us, h => by
    unfold repsB at h
    obtain ⟨h1, h2⟩ := ba h
    obtain ⟨vs, r1, r2⟩ := repsB_ok ps us h2
    split at h1
    · rename_i v hv
      obtain ⟨h3, h4⟩ := ba h1
      exact ⟨v :: vs, .cons (He.relB_ok h3) r1, Reps.cons (repB_ok p v h4) r2⟩
    · cases h1
end
inductive Src where
  | kw (j : Nat) | df (j : Nat)
end M
end
section
set_option Elab.async false
set_option linter.all false
set_option maxRecDepth 100000
set_option maxHeartbeats 0
namespace M
open PySem PySem.Spec PyProof.Rows L2
end M
end
section
set_option Elab.async false
set_option linter.all false
set_option maxRecDepth 100000
set_option maxHeartbeats 0
namespace M
open PySem L2
def boolsP : List P → Option (List Bool)
  | [] => some []
  | .bl i :: r => match boolsP r with
    | some is => some (i :: is)
    | none => none
  | _ :: _ => none
theorem boolsP_eq : ∀ {xs : List P} {is : List Bool}, boolsP xs = some is → xs = is.map P.bl
  | [], _, h => by cases h; rfl
  | .bl i :: r, is, h => by
    unfold boolsP at h
    split at h
    · rename_i js e; cases h; rw [List.map_cons, ← boolsP_eq e]
    · cases h
  | .non :: _, _, h => by simp [boolsP] at h
  | .int _ :: _, _, h => by simp [boolsP] at h
  | .str _ :: _, _, h => by simp [boolsP] at h
  | .tup _ :: _, _, h => by simp [boolsP] at h
  | .lst _ :: _, _, h => by simp [boolsP] at h
  | .rol _ :: _, _, h => by simp [boolsP] at h
  | .dct _ :: _, _, h => by simp [boolsP] at h
  | .obj _ _ :: _, _, h => by simp [boolsP] at h
  | .cls _ :: _, _, h => by simp [boolsP] at h
theorem boolsP_map : ∀ (is : List Bool), boolsP (is.map P.bl) = some is
  | [] => rfl
  | i :: r => by rw [List.map_cons]; unfold boolsP; rw [boolsP_map r]
def allO (ds : List D) (st : Sr) : R (D × Sr) := match ds with
  | [d] => match ((peek st d).bind itemsP).bind boolsP with
    | some bs => .ok (.fz (.bl (bs.all id)), st)
    | none => .stuck
  | _ => .stuck
theorem reps_bools {K : PySem.W.Frag} {Z : Hp} : ∀ {is : List Bool} {vs : List V}, Reps K Z (is.map P.bl) vs → vs = is.map V.bl
  | [], vs, h => by rw [List.map_nil, Reps] at h; exact h
  | i :: r, vs, h => by
    rw [List.map_cons, Reps] at h
    obtain ⟨v, ws, rfl, h1, h2⟩ := h
    rw [Rep] at h1
    rw [h1, reps_bools h2]; rfl
theorem vals_bools {h : Heap} : ∀ {is : List Bool} {us : List Value}, Vals (is.map V.bl) us → ReadsAll h us (is.map PyData.bool) []
  | [], us, hv => by cases hv; exact .nil
  | i :: r, us, hv => by
    rw [List.map_cons] at hv
    cases hv with
    | cons h1 h2 =>
      cases h1
      exact ReadsAll.cons (as := []) (bs := []) (.bool i) (vals_bools h2)
theorem plain_bools : ∀ is : List Bool, PyData.plainAll (is.map PyData.bool) = true
  | [] => rfl
  | i :: r => by rw [List.map_cons, PyData.plainAll, plain_bools r]; rfl
theorem all_bools (is : List Bool) : (is.map PyData.bool).all PyData.truthy = is.all id := by
  rw [List.all_map]; rfl
section
variable {X : Cx} {W : WX}
theorem c_all (hh : X.A.handled = none) : CallR X (.builtin "all") (rMA X.K W allO) := by
  intro pins s σ H xs us Q I r ⟨ds, Z, φ, st, rs, rdd, af⟩
  unfold allO at af
  split at af
  · obtain ⟨v, rfl, rd⟩ := rdd.one
    split at af
    · rename_i is e
      obtain ⟨ys, e1, e2⟩ := Option.bind_eq_some_iff.mp e
      obtain ⟨q, e3, e4⟩ := Option.bind_eq_some_iff.mp e1
      obtain ⟨a, vs, rfl, h2, h3⟩ := pk_items (peek_pk rs e3 rd) e4
      rw [boolsP_eq e2] at h3
      have hv := reps_bools h3
      subst hv
      rw [Vals.ref1 r]
      have hf : ∀ x ∈ is.map PyData.bool, x.fits63 := fun x hx => by
        obtain ⟨b, _, rfl⟩ := List.mem_map.mp hx
        trivial
      have fin : ∀ (h' : Heap) (tk : Nat), (∀ b o, s.heap.get? b = some o → h'.get? b = some o) → EP X pins σ Q (.bool ((is.map PyData.bool).all PyData.truthy)) { s with heap := h', toks := tk } := fun h' tk k => by
        rw [all_bools]
        exact ⟨.bl (is.all id), H, I.kept (t' := tk) k, rfl, af.here rs (by show Rep _ _ _ _; rw [Rep])⟩
      rcases h2 with h2 | h2
      · obtain ⟨its, rv, hl, hz⟩ := I.list h2
        exact PySem.W.all_list_data hh hl.isList (vals_bools rv) (plain_bools is) hf fin
      · obtain ⟨its, rv, hl, hz⟩ := I.tuple h2
        exact PySem.W.all_tuple_data hh hl (vals_bools rv) (plain_bools is) hf fin
    · exact af.elim
  · exact af.elim
end
section
variable {X : Cx} {W : WX} {o e : Expr} {f : DE} {fs : DA} {apos cpos : Pos}
theorem de_pop1 (ho : PE X o (tE X.K W f)) (ha : PA X [e] (tA X.K W fs)) (hbase : attributeBase o "pop" X.env (eval o X.env) = eval o X.env := by rfl)
    (hfew : ((backTo cpos (starEach (e :: []) X.env)).all (fun x => !x.1) && (backToKw cpos (keywordEach [] X.env)).all (fun x => x.1.isSome)
      && decide ((e :: ([] : List Expr)).length + ([] : List Keyword).length + (if ([] : List Keyword).isEmpty then 0 else 1) < 30)) = true := by rfl)
    (hline : (apos.endLine == cpos.line) = true := by rfl) (hs : starEach (e :: []) X.env = (false, eval e X.env) :: starEach [] X.env := by rfl) (hplain : (backTo cpos (starEach [] X.env)).any (·.1) = false := by rfl) :
    PE X (.Call (.Attribute o "pop" apos) [e] [] cpos) (tE X.K W (dBM isLst popO f fs)) := de_bm isLst_ty PySem.F.plainAttrs_list PySem.F.slot_list_pop PySem.F.type_list_pop m_pop ho ha hbase hfew hline hs hplain
end
theorem bt_all : bootBuiltins "all" = some (.builtin "all") := by decide +kernel
end M
end
section
set_option Elab.async false
set_option linter.all false
set_option maxRecDepth 100000
set_option maxHeartbeats 0
namespace M
open PySem L2
section
variable {K : PySem.W.Frag} {W : WX} {Z Z' Z2 H H' : Hp} {φ φ' : List Addr} {st : Sr} {Q : VK}
theorem RepDF.cut {a : Addr} (e : Same Z' Z2) : ∀ {fs : List (Str × D)} {gs gs0 : List (Str × V)}, RepDF K Z' (φ ++ [a]) fs gs → RepDF K Z φ fs gs0 → RepDF K Z2 φ fs gs
  | [], gs, gs0, h, _ => h
  | (k, d) :: fs, gs, gs0, h, h0 => by
    obtain ⟨v, ws, rfl, h1, h2⟩ := h
    obtain ⟨v0, ws0, rfl, g1, g2⟩ := h0
    refine ⟨v, ws, rfl, ?_, RepDF.cut e h2 g2⟩
    cases d with
    | fz p => exact Rep.mono e p v h1
    | cell m =>
      obtain ⟨b, hb, rfl⟩ := h1
      obtain ⟨b0, hb0, _⟩ := g1
      have hl := (List.getElem?_eq_some_iff.mp hb0).1
      exact ⟨b, by rw [List.getElem?_append_left hl] at hb; exact hb, rfl⟩
theorem RepDs.cut {a : Addr} (e : Same Z' Z2) : ∀ {fs : List D} {gs gs0 : List V}, RepDs K Z' (φ ++ [a]) fs gs → RepDs K Z φ fs gs0 → RepDs K Z2 φ fs gs
  | [], gs, gs0, h, _ => h
  | d :: fs, gs, gs0, h, h0 => by
    obtain ⟨v, ws, rfl, h1, h2⟩ := h
    obtain ⟨v0, ws0, rfl, g1, g2⟩ := h0
    refine ⟨v, ws, rfl, ?_, RepDs.cut e h2 g2⟩
    cases d with
    | fz p => exact Rep.mono e p v h1
    | cell m =>
      obtain ⟨b, hb, rfl⟩ := h1
      obtain ⟨b0, hb0, _⟩ := g1
      have hl := (List.getElem?_eq_some_iff.mp hb0).1
      exact ⟨b, by rw [List.getElem?_append_left hl] at hb; exact hb, rfl⟩
/-- what is promised of a frozen list holds of a new cell -/
theorem Af.thaw {xs : List P} (rs : RS K Z φ st H) (af : Af K W Z φ H (.ok (.fz (.lst xs), st)) (GE K Q)) : Af K W Z φ H (.ok (.cell st.length, st ++ [.lst xs])) (GE K Q) := by
  intro Z' φ' H' s rs' v rv
  obtain ⟨a, ha, rfl⟩ := rv
  obtain ⟨psi, rfl, hpsi⟩ := s.pre
  have hl := rs'.len
  rw [List.length_append, List.length_append, rs.len] at hl
  obtain ⟨a', rfl⟩ : ∃ a', psi = [a'] := List.length_eq_one_iff.mp (by simpa using hl)
  have ea : a' = a := by
    rw [← rs.len, List.getElem?_append_right (Nat.le_refl _), Nat.sub_self] at ha
    simpa using ha
  subst ea
  obtain ⟨hz, vs, h1, h2⟩ := rs'.cells st.length a' (.lst xs) ha (by simp)
  have sz : Same Z' (upd Z' a' (.lst vs)) := fun b u hb => by rw [upd_ne (by rintro rfl; rw [hz] at hb; cases hb)]; exact hb
  have na : a' ∉ φ := fun hm => (List.nodup_append.mp rs'.nd).2.2 a' hm a' (by simp) rfl
  refine af (upd Z' a' (.lst vs)) φ H' ⟨s.hz.trans sz, ⟨[], by simp, by simp⟩, s.fr, fun b hb => ?_, s.up, s.lk⟩ ⟨fun b u hb => ?_, rs.len, rs.nd, fun j b c hj hc => ?_, rs'.tb, fun b ps z => ?_⟩ (.ref a') ?_
  · by_cases q : b = a'
    · subst q; exact .inr (.inl (hpsi b (by simp)))
    · rw [upd_ne q] at hb; exact s.zn b hb
  · by_cases q : b = a'
    · subst q; rw [upd_same] at hb; cases hb; exact h1
    · rw [upd_ne q] at hb; exact rs'.same b u hb
  · have nb : b ≠ a' := by rintro rfl; exact na (List.mem_of_getElem? hj)
    have hlj := (List.getElem?_eq_some_iff.mp hj).1
    have hj' : (φ ++ [a'])[j]? = some b := by rw [List.getElem?_append_left hlj]; exact hj
    have hc' : (st ++ [Ct.lst xs])[j]? = some c := by rw [List.getElem?_append_left (by rw [← rs.len]; exact hlj)]; exact hc
    have r := rs'.cells j b c hj' hc'
    have r0 := rs.cells j b c hj hc
    cases c with
    | lst ys => obtain ⟨g1, ws, g2, g3⟩ := r; exact ⟨by rw [upd_ne nb]; exact g1, ws, g2, g3.mono sz⟩
    | dct kvs => obtain ⟨g1, ws, g2, g3⟩ := r; exact ⟨by rw [upd_ne nb]; exact g1, ws, g2, RepK.mono sz _ _ g3⟩
    | ldct kvs => obtain ⟨g1, o, ws, g2, g3⟩ := r; exact ⟨by rw [upd_ne nb]; exact g1, o, ws, g2, RepK.mono sz _ _ g3⟩
    | obj c fs =>
      obtain ⟨g1, dx, gs, g2, g3⟩ := r
      obtain ⟨_, _, gs0, _, g4⟩ := r0
      exact ⟨by rw [upd_ne nb]; exact g1, dx, gs, g2, g3.cut sz g4⟩
    | frz p => obtain ⟨g1, o, g2, g3⟩ := r; exact ⟨Rep.mono sz _ _ g1, o, g2, g3⟩
    | lsD ys =>
      obtain ⟨g1, gs, g2, g3⟩ := r
      obtain ⟨_, gs0, _, g4⟩ := r0
      exact ⟨by rw [upd_ne nb]; exact g1, gs, g2, g3.cut sz g4⟩
    | tuD ys =>
      obtain ⟨g1, gs, g2, g3⟩ := r
      obtain ⟨_, gs0, _, g4⟩ := r0
      exact ⟨by rw [upd_ne nb]; exact g1, gs, g2, g3.cut sz g4⟩
  · by_cases q : b = a'
    · subst q; rw [upd_same] at z; cases z
    · rw [upd_ne q] at z; exact rs'.zd b ps z
  · show Rep _ _ _ _
    rw [Rep]
    exact ⟨a', vs, rfl, upd_same, h2.mono sz⟩
end
def addF (d e : D) (st : Sr) : R (D × Sr) := match peek st d, peek st e with
  | some (.lst xs), some (.lst ys) => if xs.length + ys.length ≤ szL then .ok (.fz (.lst (xs ++ ys)), st) else .stuck
  | _, _ => addO d e st
def slF (d : D) (lo hi : Option Int) (st : Sr) : R (D × Sr) := match peek st d with
  | some (.tup xs) => .ok (.fz (.tup (cutP xs lo hi)), st)
  | some (.lst xs) => .ok (.fz (.lst (cutP xs lo hi)), st)
  | some (.rol xs) => .ok (.fz (.lst (cutP xs lo hi)), st)
  | _ => .stuck
def dSlF (f : DE) (l u : DO) : DE := fun η st => (f η st).bind fun a => (l η a.2).bind fun b => (u η b.2).bind fun c => slF a.1 b.1 c.1 c.2
def listF (ds : List D) (st : Sr) : R (D × Sr) := match ds with
  | [d] => match (peek st d).bind itemsP with
    | some xs => .ok (.fz (.lst xs), st)
    | none => .stuck
  | _ => .stuck
def sortF (ds : List D) (st : Sr) : R (D × Sr) := match ds with
  | [d] => match ((peek st d).bind itemsP).bind intsP with
    | some is => .ok (.fz (.lst ((is.mergeSort fun i j => decide (i ≤ j)).map P.int)), st)
    | none => .stuck
  | _ => .stuck
def rgF (d : D) (st : Sr) : R (D × Sr) := match d with
  | .fz (.int n) => if 0 ≤ n ∧ n ≤ 16777216 then .ok (.fz (.lst (rangeP 0 n.toNat)), st) else .stuck
  | _ => .stuck
def lstF (ds : List D) (st : Sr) : R (D × Sr) := match toPs st ds with
  | some (ps, st') => if ps.length ≤ szL then .ok (.fz (.lst ps), st') else .stuck
  | none => .stuck
section
variable {K : PySem.W.Frag} {W : WX} {Z H : Hp} {φ : List Addr} {st : Sr} {Q : VK} {d e : D} {ds : List D}
theorem addF_to (rs : RS K Z φ st H) (af : Af K W Z φ H (addF d e st) (GE K Q)) : Af K W Z φ H (addO d e st) (GE K Q) := by
  unfold addF at af
  split at af
  · rename_i xs ys h1 h2
    have e : addO d e st = (if xs.length + ys.length ≤ szL then R.ok (D.cell st.length, st ++ [Ct.lst (xs ++ ys)]) else .stuck) := by unfold addO; rw [h1, h2]
    rw [e]
    by_cases hz : xs.length + ys.length ≤ szL
    · rw [if_pos hz] at af ⊢; exact af.thaw rs
    · rw [if_neg hz] at af; exact af.elim
  · exact af
theorem slF_to {lo hi : Option Int} (rs : RS K Z φ st H) (af : Af K W Z φ H (slF d lo hi st) (GE K Q)) : Af K W Z φ H (slO d lo hi st) (GE K Q) := by
  unfold slF at af
  unfold slO
  split at af
  · rename_i xs h1; first | exact af | (rw [h1]; exact af)
  · rename_i xs h1; first | exact af.thaw rs | (rw [h1]; exact af.thaw rs)
  · rename_i xs h1; first | exact af.thaw rs | (rw [h1]; exact af.thaw rs)
  · exact af.elim
theorem listF_to (rs : RS K Z φ st H) (af : Af K W Z φ H (listF ds st) (GE K Q)) : Af K W Z φ H (listO ds st) (GE K Q) := by
  unfold listF at af
  unfold listO
  split at af
  · rename_i d
    try dsimp only
    split at af
    · rename_i h1; first | exact af.thaw rs | (rw [h1]; exact af.thaw rs)
    · exact af.elim
  · exact af.elim
theorem sortF_to (rs : RS K Z φ st H) (af : Af K W Z φ H (sortF ds st) (GE K Q)) : Af K W Z φ H (sortO ds st) (GE K Q) := by
  unfold sortF at af
  unfold sortO
  split at af
  · rename_i d
    try dsimp only
    split at af
    · rename_i h1; first | exact af.thaw rs | (rw [h1]; exact af.thaw rs)
    · exact af.elim
  · exact af.elim
theorem rgF_to (rs : RS K Z φ st H) (af : Af K W Z φ H (rgF d st) (GE K Q)) : Af K W Z φ H (rgO d st) (GE K Q) := by
  unfold rgF at af
  unfold rgO
  split at af
  · rename_i n
    try dsimp only
    split at af
    · rename_i hz; first | exact af.thaw rs | (rw [if_pos hz]; exact af.thaw rs)
    · exact af.elim
  · exact af.elim
end
section
variable {X : Cx} {W : WX} {a e : Expr} {es : List Expr} {f g : DE} {fs : DA} {pos p p1 p2 p3 : Pos}
theorem o_addF : OpR X (binaryOp .Add) (rM X.K W addF) := fun pins s σ H x y v u Q I rx ry ⟨d, e, Z, φ, st, rs, rd, re, af⟩ => o_add pins s σ H x y v u Q I rx ry ⟨d, e, Z, φ, st, rs, rd, re, addF_to rs af⟩
theorem c_listF : CallR X (.type "list") (rMA X.K W listF) := fun pins s σ H xs us Q I r ⟨ds, Z, φ, st, rs, rdd, af⟩ => c_list pins s σ H xs us Q I r ⟨ds, Z, φ, st, rs, rdd, listF_to rs af⟩
theorem c_sortF (hu : X.A.units + 3 < cLine) : CallR X (.builtin "sorted") (rMA X.K W sortF) := fun pins s σ H xs us Q I r ⟨ds, Z, φ, st, rs, rdd, af⟩ => c_sorted hu pins s σ H xs us Q I r ⟨ds, Z, φ, st, rs, rdd, sortF_to rs af⟩
theorem s_slF : SlR X (fun x lo hi H Q => ∃ d, ∃ Z φ st, RS X.K Z φ st H ∧ RepD X.K Z φ d x ∧ Af X.K W Z φ H (slF d lo hi st) (GE X.K Q)) := fun pins s σ H x v vl vu lo hi sl Q I rx hs pl pu ⟨d, Z, φ, st, rs, rd, af⟩ => s_sl pins s σ H x v vl vu lo hi sl Q I rx hs pl pu ⟨d, Z, φ, st, rs, rd, slF_to rs af⟩
theorem de_slF {lo hi : Option Expr} {l u : DO} (ha : PE X a (tE X.K W f)) (hl : PO X lo (tO X.K W l)) (hu : PO X hi (tO X.K W u)) : PE X (.Subscript a (.Slice lo hi none p2) pos) (tE X.K W (dSlF f l u)) := by
  refine (pe_slice (s_slF (W := W)) ha hl hu).to fun σ H Q h => ?_
  obtain ⟨Z, φ, η, st, rs, sl, af⟩ := h
  refine ⟨Z, φ, η, st, rs, sl, af.bind.mono fun a Z' φ' H' t g' rs' v r => ?_⟩
  refine ⟨Z', φ', η, a.2, rs', sl.mono t, g'.bind.mono fun b Z2 φ2 H2 t2 g2 rs2 => ?_⟩
  refine ⟨Z2, φ2, η, b.2, rs2, (sl.mono t).mono t2, g2.bind.mono fun c Z3 φ3 H3 t3 g3 rs3 => ?_⟩
  exact ⟨a.1, Z3, φ3, c.2, rs3, (r.mono t2.hz t2.app).mono t3.hz t3.app, g3⟩
theorem de_lstF (h : PA X es (tA X.K W fs)) : PE X (.List es pos) (tE X.K W (dAp lstF fs)) := by
  refine (pe_lst h).to fun σ H Q h => ?_
  obtain ⟨Z, φ, η, st, rs, sl, af⟩ := h
  refine ⟨Z, φ, η, st, rs, sl, af.bind.mono fun a Z' φ' H' t g' rs' vs r => ?_⟩
  unfold lstF at g'
  split at g'
  · rename_i ps st' e
    split at g'
    · rename_i hz
      obtain ⟨Z2, f2, rs2, q2⟩ := toPs_ok rs' e r
      refine ⟨by rw [← q2.length, ← szL_eq]; exact hz, fun p hp => ?_⟩
      exact (g'.later f2.step).newZ rs2 hp fun sz => by rw [Rep]; exact ⟨p, vs, rfl, upd_same, q2.mono sz⟩
    · exact g'.elim
  · exact g'.elim
theorem de_listRgF (hc : X.calm = true) (hg : Gl X "list") (hm : X.mg "list" = none) (hgr : Gl X "range") (hmr : X.mg "range" = none) (ha : PE X a (tE X.K W f)) (na : starEach [a] X.env = (false, eval a X.env) :: starEach [] X.env := by rfl)
    (nb : starEach [.Call (.Name "range" p1) [a] [] p2] X.env = (false, eval (.Call (.Name "range" p1) [a] [] p2) X.env) :: starEach [] X.env := by rfl) : PE X (.Call (.Name "list" p) [.Call (.Name "range" p1) [a] [] p2] [] pos) (tE X.K W (dUn rgF f)) := by
  refine (pe_listRg hc hg hm (prg_1 hgr hmr ha na) nb).to fun σ H Q hh => ?_
  obtain ⟨Z, φ, η, st, rs, sl, af⟩ := hh
  refine ⟨Z, φ, η, st, rs, sl, af.bind.mono fun a Z' φ' H' t g' rs' v r => ?_⟩
  have g' := rgF_to rs' g'
  unfold rgO at g'
  split at g'
  · rename_i n en
    rw [en] at r
    obtain rfl := fz_int r
    split at g'
    · rename_i hz
      exact ⟨n, rfl, RgOk.of_le (Int.le_refl _) hz.2 (by decide) hz.1, fun q hq => g'.lst rs' hq (rg_reps hz.1)⟩
    · exact g'.elim
  · exact g'.elim
end
def lcZ (r : R (List P × Sr)) : R (D × Sr) := r.calm.bind fun a => .ok (.fz (.lst a.1), a.2)
def dLcLZ (f : DE) (i : Nat) (t : DT) (fe : DE) : DE := fun η st => (f η st).bind fun a => match toP a.2 a.1 with
  | some (p, st') => match itemsP p with
    | some xs => lcZ (lcD i t fe η xs [] st')
    | none => .stuck
  | none => .stuck
def dLcR1Z (f : DA) (i : Nat) (t : DT) (fe : DE) : DE := fun η st => (f η st).bind fun a => match a.1 with
  | [.fz (.int j)] => if -(2 ^ 62) ≤ j ∧ j < 2 ^ 62 then lcZ (lcD i t fe η (rangeP 0 j.toNat) [] a.2) else .stuck
  | _ => .stuck
section
variable {X : Cx} {W : WX}
def LcJ (K : PySem.W.Frag) (W : WX) (i : Nat) (t : DT) (fe : DE) (η : Et) (Q : VK) (σ : St) (Z0 : Hp) (φ0 : List Addr) (H0 : Hp) (p : Addr) (Ex : Hp → Prop) (ys : List P) (H : Hp) : Prop :=
  ∃ Z φ st acc, RS K Z φ st H ∧ Slots K Z φ η σ ∧ Ex Z ∧ Mk1 K Z φ H p acc ∧ Step Z0 φ0 H0 Z φ H ∧ Af K W Z0 φ0 H0 (lcZ (lcD i t fe η ys acc st)) (GE K Q)
variable {K : PySem.W.Frag} {i : Nat} {t : DT} {fe : DE} {η : Et} {Q : VK} {σ : St} {Z0 H0 : Hp} {φ0 : List Addr} {p : Addr} {Ex : Hp → Prop}
theorem LcJ.done {H : Hp} (h0 : H0 p = none) (h : LcJ K W i t fe η Q σ Z0 φ0 H0 p Ex [] H) : Q (.ref p) H := by
  obtain ⟨Z, φ, st, acc, rs, sl, ex, m, s, af⟩ := h
  obtain ⟨vs, h1, h2⟩ := m.at_
  have af2 : Af K W Z0 φ0 H0 (.ok (.fz (.lst acc), st)) (GE K Q) := af
  have sz : Same Z (upd Z p (.lst vs)) := fun b u hb => by rw [upd_ne (by rintro rfl; rw [m.zn] at hb; cases hb)]; exact hb
  refine af2 (upd Z p (.lst vs)) φ H ⟨s.hz.trans sz, s.pre, s.fr, fun b hb => ?_, s.up, s.lk⟩ ⟨fun b u hb => ?_, rs.len, rs.nd, fun j b c hj hc => ?_, rs.tb, fun b ps z => ?_⟩ (.ref p) ?_
  · by_cases q : b = p
    · subst q; exact .inr (.inl (.of h0))
    · rw [upd_ne q] at hb; exact s.zn b hb
  · by_cases q : b = p
    · subst q; rw [upd_same] at hb; cases hb; exact h1
    · rw [upd_ne q] at hb; exact rs.same b u hb
  · have nb : b ≠ p := by rintro rfl; exact m.out (List.mem_of_getElem? hj)
    exact (rs.cells j b c hj hc).keep sz ⟨[], by simp⟩ (fun q => by rw [upd_ne nb]; exact (rs.cells j b c hj hc).free q) fun u hu _ => hu
  · by_cases q : b = p
    · subst q; rw [upd_same] at z; cases z
    · rw [upd_ne q] at z; exact rs.zd b ps z
  · show Rep _ _ _ _
    rw [Rep]
    exact ⟨p, vs, rfl, upd_same, h2.mono sz⟩
theorem lcZ_some {r : R (List P × Sr)} {Z : Hp} {φ : List Addr} {H : Hp} (h : Af K W Z φ H (lcZ r) (GE K Q)) : ∃ a, r = .ok a := by
  cases r with
  | ok a => exact ⟨a, rfl⟩
  | exc => exact h.elim
  | stuck => exact h.elim
theorem LcJ.turn (h0 : H0 p = none) (hm : ∀ Z Z', Same Z Z' → Ex Z → Ex Z') {x : P} {ys : List P} {H : Hp} {v : V} (h : LcJ K W i t fe η Q σ Z0 φ0 H0 p Ex (x :: ys) H) (hv : ∀ Z, Same Z H → Ex Z → Rep K Z x v) :
    tT K W0 t (σ.set i (some v)) H (fun b H3 => if b = true then tE K W0 fe (σ.set i (some v)) H3 (fun y H4 => ∃ acc, H4 p = some (.lst acc) ∧ acc.length < sizeLine ∧ LcJ K W i t fe η Q σ Z0 φ0 H0 p Ex ys (upd H4 p (.lst (acc ++ [y])))) else LcJ K W i t fe η Q σ Z0 φ0 H0 p Ex ys H3) := by
  obtain ⟨Z, φ, st, acc, rs, sl, ex, m, s, af⟩ := h
  have slv : Slots K Z φ (η.set i (some (.fz x))) (σ.set i (some v)) := sl.set (hv Z rs.same ex)
  refine ⟨Z, φ, _, st, rs, slv, ?_⟩
  obtain ⟨⟨acc', st'⟩, he⟩ := lcZ_some af
  have he0 := he
  unfold lcD at he
  cases e1 : t (η.set i (some (.fz x))) st with
  | exc => rw [e1] at he; cases he
  | stuck => rw [e1] at he; cases he
  | ok a =>
    rw [e1] at he
    intro Z1 φ1 H1 s1 rs1
    have he1 : (if a.1 = true then (fe (η.set i (some (.fz x))) a.2).bind fun b => match toP b.2 b.1 with
      | some (p, st2) => if acc.length < szL then lcD i t fe η ys (acc ++ [p]) st2 else .stuck
      | none => .stuck
    else lcD i t fe η ys acc a.2) = .ok (acc', st') := he
    have m1 := m.step s1
    by_cases ha : a.1 = true
    · rw [if_pos ha] at he1 ⊢
      refine ⟨Z1, φ1, _, a.2, rs1, slv.mono s1, ?_⟩
      cases e2 : fe (η.set i (some (.fz x))) a.2 with
      | exc => rw [e2] at he1; cases he1
      | stuck => rw [e2] at he1; cases he1
      | ok b =>
        rw [e2] at he1
        intro Z2 φ2 H2 s2 rs2 y ry
        have he2 : (match toP b.2 b.1 with
          | some (p, st2) => if acc.length < szL then lcD i t fe η ys (acc ++ [p]) st2 else .stuck
          | none => .stuck) = .ok (acc', st') := he1
        have m2 := m1.step s2
        obtain ⟨vs, h1, h2⟩ := m2.at_
        cases e3 : toP b.2 b.1 with
        | none => rw [e3] at he2; cases he2
        | some pr =>
          obtain ⟨q, st3⟩ := pr
          rw [e3] at he2
          dsimp only at he2
          split at he2
          · rename_i hz
            obtain ⟨Z3, f3, rs3, r3⟩ := toP_ok rs2 e3 ry
            have m3 := m2.step f3.step
            obtain ⟨rs4, m4⟩ := m3.push rs3 h1 r3
            have s3 := ((s.trans s1).trans s2).trans f3.step
            refine ⟨vs, h1, by rw [← h2.length, ← szL_eq]; exact hz, Z3, φ2, st3, acc ++ [q], rs4, ((sl.mono s1).mono s2).mono f3.step, hm _ _ f3.hz (hm _ _ s2.hz (hm _ _ s1.hz ex)), m4, ?_, ?_⟩
            · refine ⟨s3.hz, s3.pre, fun b o hb hn ht => ?_, s3.zn, fun b hb => ?_, fun b q u hb => by rw [upd_ne (by rintro rfl; rw [h0] at hb; cases hb)]; exact s3.lk b q u hb⟩
              · rw [upd_ne]
                · exact s3.fr b o hb hn ht
                · rintro rfl
                  rw [h0] at hb; cases hb
              · by_cases q : b = p
                · subst q; exact .of h0
                · exact s3.up b fun o ho => hb o (by rw [upd_ne q]; exact ho)
            · rw [he2]; rw [he0] at af; exact af
          · cases he2
    · rw [if_neg ha] at he1 ⊢
      exact ⟨Z1, φ1, a.2, acc, rs1, sl.mono s1, hm _ _ s1.hz ex, m1, s.trans s1, by rw [he1]; rw [he0] at af; exact af⟩
end
section
variable {X : Cx} {W : WX} {elt iter a : Expr} {scope : Scope} {x : Str} {i : Nat} {tpos pos p2 : Pos} {ifs : List Expr} {f fe : DE} {fs : DA} {t : DT}
/-- what a comprehension over frozen items asks -/
theorem lcZ_read {D : Addr} {σ : St} {η : Et} {H Z : Hp} {φ : List Addr} {st : Sr} {xs : List P} {Q : VK} {Ex : Hp → Prop} (hD : H D = none) (rs : RS X.K Z φ st H) (sl : Slots X.K Z φ η σ) (ex : Ex Z) (af : Af X.K W Z φ H (lcZ (lcD i t fe η xs [] st)) (GE X.K Q)) :
    LcJ X.K W i t fe η Q σ Z φ H D Ex xs (upd H D (.lst [])) := by
  have hz : Z D = none := rs.same.free hD
  have na : D ∉ φ := fun hm => by obtain ⟨u, hu⟩ := rs.some_ hm; rw [hD] at hu; cases hu
  refine ⟨Z, φ, st, [], ⟨fun b u hb => ?_, rs.len, rs.nd, fun j b c hj hc => ?_, tabs_upd rs.tb (fun u hu => by rw [hD] at hu; cases hu), rs.zd⟩, sl, ex, ⟨na, hz, [], upd_same, .nil⟩, ⟨Same.refl _, ⟨[], by simp, by simp⟩, fun b u hb hn _ => ?_, fun b hb => .inl hb, fun b hb => ?_, fun b q u hb => by rw [upd_ne (by rintro rfl; rw [hD] at hb; cases hb)]; exact hb⟩, af⟩
  · rw [upd_ne (by rintro rfl; rw [hz] at hb; cases hb)]; exact rs.same b u hb
  · have nb : b ≠ D := by rintro rfl; exact na (List.mem_of_getElem? hj)
    exact (rs.cells j b c hj hc).keep (Same.refl _) ⟨[], by simp⟩ (fun q => (rs.cells j b c hj hc).free q) fun u hu _ => by rw [upd_ne nb]; exact hu
  · rw [upd_ne (by rintro rfl; rw [hD] at hb; cases hb)]; exact hb
  · by_cases q : b = D
    · subst q; exact .of hD
    · exact fun o ho => hb o (by rw [upd_ne q]; exact ho)
theorem lcZL_to {σ : St} {H : Hp} {Q : VK} (hh : tE X.K W (dLcLZ f i t fe) σ H Q) :
    tLc (fun σ H R => tE X.K W f σ H fun x H1 => ∃ a, x = .ref a ∧ (((∃ xs, SqL X.K H1 a xs) ∧ R (Itl X.K a) H1) ∨ ((∃ xs, SqT X.K H1 a xs) ∧ R (Itt X.K a) H1))) (gName i) (tT X.K W0 t) (tE X.K W0 fe) [i] σ H Q := by
  obtain ⟨Z, φ, η, st, rs, sl, af⟩ := hh
  refine ⟨Z, φ, η, st, rs, sl, af.bind.mono fun a Z' φ' H' t' g' rs' v r => ?_⟩
  split at g'
  · rename_i p st' e1
    split at g'
    · rename_i xs e2
      obtain ⟨Z2, f2, rs2, q2⟩ := toP_ok rs' e1 r
      obtain ⟨a', vs, rfl, h2, h3⟩ := pk_itemsZ q2 e2
      have af2 := g'.later f2.step
      have sl2 := (sl.mono t').mono f2.step
      rcases h2 with h2 | h2
      · refine ⟨a', rfl, .inl ⟨⟨vs, rs2.same.seq h2⟩, fun D hD => ?_⟩⟩
        refine lc_list (K := X.K) (a := a') (xs := vs) (Qd := fun H => Q (.ref D) H) (fun j H => LcJ X.K W i t fe η Q σ Z2 φ' H' D (fun Z => SqL X.K Z a' vs ∧ Reps X.K Z xs vs) (xs.drop j) H) (by rw [List.drop_zero]; exact lcZ_read hD rs2 sl2 ⟨h2, h3⟩ af2) (fun j H _ hh => ?_) (fun j x H hx hh => ?_) (fun H hh => ?_)
        · obtain ⟨Z3, _, _, _, rs3, _, ⟨e3, _⟩, _⟩ := hh; exact rs3.same.seq e3
        · have hl : j < xs.length := by rw [h3.length]; exact (List.getElem?_eq_some_iff.mp hx).1
          rw [drop_cons (List.getElem?_eq_getElem hl)] at hh
          refine ⟨wipe1 _ _ _, ?_⟩
          rw [wipe1s]
          refine hh.turn hD (fun Z Z' s ⟨e1, e2⟩ => ⟨s.seq e1, e2.mono s⟩) fun Z _ ⟨_, e2⟩ => ?_
          obtain ⟨v, hv, rv⟩ := e2.get (List.getElem?_eq_getElem hl)
          rw [hx] at hv; cases hv; exact rv
        · rw [← h3.length, List.drop_length] at hh
          exact hh.done hD
      · refine ⟨a', rfl, .inr ⟨⟨vs, same_sqT rs2.same h2⟩, fun D hD => ?_⟩⟩
        refine lc_tup (K := X.K) (a := a') (xs := vs) (Qd := fun H => Q (.ref D) H) (fun j H => LcJ X.K W i t fe η Q σ Z2 φ' H' D (fun Z => SqT X.K Z a' vs ∧ Reps X.K Z xs vs) (xs.drop j) H) (by rw [List.drop_zero]; exact lcZ_read hD rs2 sl2 ⟨h2, h3⟩ af2) (fun j H _ hh => ?_) (fun j x H hx hh => ?_) (fun H hh => ?_)
        · obtain ⟨Z3, _, _, _, rs3, _, ⟨e3, _⟩, _⟩ := hh; exact same_sqT rs3.same e3
        · have hl : j < xs.length := by rw [h3.length]; exact (List.getElem?_eq_some_iff.mp hx).1
          rw [drop_cons (List.getElem?_eq_getElem hl)] at hh
          refine ⟨wipe1 _ _ _, ?_⟩
          rw [wipe1s]
          refine hh.turn hD (fun Z Z' s ⟨e1, e2⟩ => ⟨same_sqT s e1, e2.mono s⟩) fun Z _ ⟨_, e2⟩ => ?_
          obtain ⟨v, hv, rv⟩ := e2.get (List.getElem?_eq_getElem hl)
          rw [hx] at hv; cases hv; exact rv
        · rw [← h3.length, List.drop_length] at hh
          exact hh.done hD
    · exact g'.elim
  · exact g'.elim
theorem lcZR1_to {σ : St} {H : Hp} {Q : VK} (hh : tE X.K W (dLcR1Z fs i t fe) σ H Q) : tLc (iRng1 (tA X.K W fs)) (gName i) (tT X.K W0 t) (tE X.K W0 fe) [i] σ H Q := by
  obtain ⟨Z, φ, η, st, rs, sl, af⟩ := hh
  refine ⟨Z, φ, η, st, rs, sl, af.bind.mono fun a Z' φ' H' t' g' rs' vs r => ?_⟩
  split at g'
  · rename_i j ej
    rw [ej] at r
    obtain ⟨v, rfl, rj⟩ := r.one
    obtain rfl := fz_int rj
    split at g'
    · rename_i hz
      refine ⟨j, rfl, hz.1, hz.2, fun D hD => ?_⟩
      refine lc_range (lo := 0) (n := j.toNat) (Qd := fun H => Q (.ref D) H) (fun k H => LcJ X.K W i t fe η Q σ Z' φ' H' D (fun _ => True) ((rangeP 0 j.toNat).drop k) H) (by rw [List.drop_zero]; exact lcZ_read hD rs' (sl.mono t') trivial g') (fun k H hk hh => ?_) (fun H hh => ?_)
      · rw [drop_cons (rangeP_get hk)] at hh
        refine ⟨wipe1 _ _ _, ?_⟩
        rw [wipe1s]
        exact hh.turn hD (fun _ _ _ _ => trivial) fun Z _ _ => by rw [Rep]
      · rw [List.drop_eq_nil_of_le (by rw [rangeP_len]; exact Nat.le_refl _)] at hh
        exact hh.done hD
    · exact g'.elim
  · exact g'.elim
/-- [elt for x in iter if ..] -/
theorem de_lcLZ (hc : X.calm = true) (hN : X.N.Nodup) (hl : PE X iter (tE X.K W f)) (ok : BlkOk X.N X.env.scope scope [(x, i)])
    (hg : ∀ (s : Shared) (H : Hp) (C : Addr) (cl : List (Str × Addr)) (fp : List Addr), PG (X.blk s H scope (compEnvC scope cl C X.env) fp) (.Name x tpos) (gName i)) (ht : ∀ (s : Shared) (H : Hp) (C : Addr) (cl : List (Str × Addr)) (fp : List Addr), PTs (X.blk s H scope (compEnvC scope cl C X.env) fp) ifs (tT X.K W0 t))
    (he : ∀ (s : Shared) (H : Hp) (C : Addr) (cl : List (Str × Addr)) (fp : List Addr), PE (X.blk s H scope (compEnvC scope cl C X.env) fp) elt (tE X.K W0 fe)) (hs : ∀ x, foldedSetIterable iter X.env x = pure x := by intro _; rfl) :
    PE X (.ListComp elt [⟨.Name x tpos, iter, ifs, 0⟩] scope pos) (tE X.K W (dLcLZ f i t fe)) := (pe_lc (own := [(x, i)]) hc hN (pi_seq hl) ok hg ht he hs).to fun σ H Q hh => lcZL_to hh
theorem de_lcR1Z {p pos' : Pos} (hc : X.calm = true) (hN : X.N.Nodup) (hgl : Gl X "range") (hm : X.mg "range" = none) (ha : PA X [a] (tA X.K W fs)) (ok : BlkOk X.N X.env.scope scope [(x, i)])
    (hg : ∀ (s : Shared) (H : Hp) (C : Addr) (cl : List (Str × Addr)) (fp : List Addr), PG (X.blk s H scope (compEnvC scope cl C X.env) fp) (.Name x tpos) (gName i)) (ht : ∀ (s : Shared) (H : Hp) (C : Addr) (cl : List (Str × Addr)) (fp : List Addr), PTs (X.blk s H scope (compEnvC scope cl C X.env) fp) ifs (tT X.K W0 t))
    (he : ∀ (s : Shared) (H : Hp) (C : Addr) (cl : List (Str × Addr)) (fp : List Addr), PE (X.blk s H scope (compEnvC scope cl C X.env) fp) elt (tE X.K W0 fe)) (hss : starEach [a] X.env = [(false, eval a X.env)] := by rfl) (hs : ∀ x, foldedSetIterable (.Call (.Name "range" p) [a] [] pos) X.env x = pure x := by intro _; rfl) :
    PE X (.ListComp elt [⟨.Name x tpos, .Call (.Name "range" p) [a] [] pos, ifs, 0⟩] scope pos') (tE X.K W (dLcR1Z fs i t fe)) := (pe_lc (own := [(x, i)]) hc hN (pi_range1 hgl hm ha hss) ok hg ht he hs).to fun σ H Q hh => lcZR1_to hh
theorem ds_lcLZ {j : Nat} {y : Str} {py spos : Pos} (hc : X.calm = true) (hN : X.N.Nodup) (hl : PE X iter (tE X.K W f)) (ok : BlkOk X.N X.env.scope scope [(x, i)])
    (hg : ∀ (s : Shared) (H : Hp) (C : Addr) (cl : List (Str × Addr)) (fp : List Addr), PG (X.blk s H scope (compEnvC scope cl C X.env) fp) (.Name x tpos) (gName i)) (ht : ∀ (s : Shared) (H : Hp) (C : Addr) (cl : List (Str × Addr)) (fp : List Addr), PTs (X.blk s H scope (compEnvC scope cl C X.env) fp) ifs (tT X.K W0 t))
    (he : ∀ (s : Shared) (H : Hp) (C : Addr) (cl : List (Str × Addr)) (fp : List Addr), PE (X.blk s H scope (compEnvC scope cl C X.env) fp) elt (tE X.K W0 fe))
    (hsw : swapsWith (.ListComp elt [⟨.Name x tpos, iter, ifs, 0⟩] scope pos) (some (.Name y py)) spos.line X.env = pure true) (hy : X.N[j]? = some y := by rfl) (hyl : X.env.scope.names.lookup y = some .local := by rfl) (hs : ∀ x, foldedSetIterable iter X.env x = pure x := by intro _; rfl) :
    PS X (.Assign [.Name y py] (.ListComp elt [⟨.Name x tpos, iter, ifs, 0⟩] scope pos) spos) (tS X.K W (dAsg (dLcLZ f i t fe) (gNm j))) := (ps_setLc (own := [(x, i)]) hc hN hy hyl hsw (pi_seq hl) ok hg ht he hs).to fun D σ H hh => lcZL_to (dAsg_to hh)
theorem ds_lcR1Z {j : Nat} {y : Str} {py spos p pos' : Pos} (hc : X.calm = true) (hN : X.N.Nodup) (hgl : Gl X "range") (hm : X.mg "range" = none) (ha : PA X [a] (tA X.K W fs)) (ok : BlkOk X.N X.env.scope scope [(x, i)])
    (hg : ∀ (s : Shared) (H : Hp) (C : Addr) (cl : List (Str × Addr)) (fp : List Addr), PG (X.blk s H scope (compEnvC scope cl C X.env) fp) (.Name x tpos) (gName i)) (ht : ∀ (s : Shared) (H : Hp) (C : Addr) (cl : List (Str × Addr)) (fp : List Addr), PTs (X.blk s H scope (compEnvC scope cl C X.env) fp) ifs (tT X.K W0 t))
    (he : ∀ (s : Shared) (H : Hp) (C : Addr) (cl : List (Str × Addr)) (fp : List Addr), PE (X.blk s H scope (compEnvC scope cl C X.env) fp) elt (tE X.K W0 fe))
    (hsw : swapsWith (.ListComp elt [⟨.Name x tpos, .Call (.Name "range" p) [a] [] pos, ifs, 0⟩] scope pos') (some (.Name y py)) spos.line X.env = pure true) (hy : X.N[j]? = some y := by rfl) (hyl : X.env.scope.names.lookup y = some .local := by rfl) (hss : starEach [a] X.env = [(false, eval a X.env)] := by rfl) (hs : ∀ x, foldedSetIterable (.Call (.Name "range" p) [a] [] pos) X.env x = pure x := by intro _; rfl) :
    PS X (.Assign [.Name y py] (.ListComp elt [⟨.Name x tpos, .Call (.Name "range" p) [a] [] pos, ifs, 0⟩] scope pos') spos) (tS X.K W (dAsg (dLcR1Z fs i t fe) (gNm j))) := (ps_setLc (own := [(x, i)]) hc hN hy hyl hsw (pi_range1 hgl hm ha hss) ok hg ht he hs).to fun D σ H hh => lcZR1_to (dAsg_to hh)
end
end M
end
section
set_option Elab.async false
set_option linter.all false
set_option maxRecDepth 100000
set_option maxHeartbeats 0
namespace M
open PySem L2
end M
end
section
set_option Elab.async false
set_option linter.all false
set_option maxRecDepth 100000
set_option maxHeartbeats 0
namespace M
open PySem PySem.Spec PyProof.Rows L2
abbrev Hd := Value × Option (Nat × Str) × (Addr → Value → Option Addr → TS)
/-- the ends of a suite whose name is taken away behind it -/
def ends_ (i : Nat) (D : Ends) : Ends := { nx := fun σ H => D.nx (σ.set i none) H, rt := D.rt, bk := fun σ H => D.bk (σ.set i none) H, ct := fun σ H => D.ct (σ.set i none) H }
def wHds (K : PySem.W.Frag) (Wout : WX) (D : Ends) : List Hd → WX
  | [] => Wout
  | (c, none, ts) :: r => fun cls d σ H => ∃ b, PySem.W.exmOne K cls c = some b ∧ (b = true → ∀ a, H a = none → ts a cls d D σ H) ∧ (b = false → wHds K Wout D r cls d σ H)
  | (c, some (i, _), ts) :: r => fun cls d σ H => ∃ b, PySem.W.exmOne K cls c = some b ∧ (b = true → ∀ a, H a = none → ts a cls d (ends_ i D) (σ.set i (some (.ref a))) H) ∧ (b = false → wHds K Wout D r cls d σ H)
def SuOk (X : Cx) (su : List Stmt) (ts : Addr → Value → Option Addr → TS) : Prop := ∀ (a : Addr) (oe : Obj) (cls : Value) (d : Option Addr) (pn : List (Addr × Obj)), Zc cls d oe → (∃ vs, oe.data = .fields vs) → PSs (X.suite a ((a, oe) :: pn)) su (ts a cls d)
inductive HdsM (X : Cx) : List ExceptHandler → List Hd → Prop
  | nil : HdsM X [] []
  | one {x : Str} {c : Value} {ts : Addr → Value → Option Addr → TS} {b₀ : Stmt} {su : List Stmt} {np pos : Pos} {hds : List ExceptHandler} {l : List Hd} (hc : Names X x c) (hsu : SuOk X (b₀ :: su) ts) (r : HdsM X hds l) :
      HdsM X (.ExceptHandler (some (.Name x np)) none (b₀ :: su) pos :: hds) ((c, none, ts) :: l)
  | as {x n : Str} {i : Nat} {c : Value} {ts : Addr → Value → Option Addr → TS} {b₀ : Stmt} {su : List Stmt} {np pos : Pos} {hds : List ExceptHandler} {l : List Hd} (hi : X.N[i]? = some n) (hln : X.env.kindOf n = some .local) (hc : Names X x c) (hsu : SuOk X (b₀ :: su) ts) (r : HdsM X hds l) :
      HdsM X (.ExceptHandler (some (.Name x np)) (some n) (b₀ :: su) pos :: hds) ((c, some (i, n), ts) :: l)
section
variable {X : Cx} {Wout : WX} {D : Ends} {pins : List (Addr × Obj)}
theorem x_test {a : Addr} {ps : List (Addr × Obj)} {σ : L2.St} {H : Hp} {x : Str} {c : Value} {np : Pos} {s : Shared} {Q : Value → Shared → Prop} {E : Value → Shared → Prop} (S : Inv (X.suite a ps) [] σ H s) (hc : Names X x c) (q : Q c s) :
    wpAny (model X.prog X.w) (X.A.mark (some (.ref a))) (eval (.Name x np) X.env) Q E s := by
  obtain ⟨hg, hdb, hm | ⟨hm, hv, hn⟩⟩ := hc
  · exact ld_glob (X := X.suite a ps) S hg hm q hdb
  · exact ld_blt (X := X.suite a ps) S hg hm hv q hn hdb
/-- a caught exception lies at a, and has landed -/
structure Cgt (X : Cx) (pins : List (Addr × Obj)) (a : Addr) (B : Heap) (sI : Shared) (s : Shared) (cls : Value) (d : Option Addr) (σ : L2.St) (H : Hp) : Prop where
  fl : HandSPX.FlyingZ B (X.env :: X.outer) a (Zc cls d) s.heap
  J : Inv X pins σ H sI
  nb : ∀ b o, sI.heap.get? b = some o → b ∉ frs X.stack → B.get? b = some o
  up : sI.heap.UpToSlots s.heap
  na : H a = none
  os : s.os = sI.os
  ag : AllBare s.gens
theorem Cgt.inv {a : Addr} {B : Heap} {sI s : Shared} {cls : Value} {d : Option Addr} {σ : L2.St} {H : Hp} (C : Cgt X pins a B sI s cls d σ H) : Inv X pins σ H s := C.J.landed C.nb C.fl.1 C.up C.os C.ag
theorem Cgt.suite (hf : X.env.frame = some X.env.locals) {a : Addr} {B : Heap} {sI s : Shared} {cls : Value} {d : Option Addr} {σ : L2.St} {H : Hp} (C : Cgt X pins a B sI s cls d σ H) :
    ∃ oe, s.heap.get? a = some oe ∧ Zc cls d oe ∧ (∃ vs, oe.data = .fields vs) ∧ Inv (X.suite a ((a, oe) :: (X.pn ++ pins))) [] σ H s := by
  obtain ⟨oe, vs, he, hz, hd⟩ := C.fl.there
  have nfr : a ∉ frs (X.env :: X.outer) := fun hm => by
    obtain ⟨_, o', e', hnf⟩ := C.fl.2.2.1.mem hm
    rw [he] at e'; cases e'
    exact hnf _ hd
  refine ⟨oe, he, hz, ⟨vs, hd⟩, C.inv.suite he hd C.na (fun z => nfr (List.mem_filterMap.mpr ⟨X.env, List.mem_cons_self, by rw [hf, z]⟩)) fun hm => ?_⟩
  obtain ⟨e, he, q⟩ := List.mem_filterMap.mp hm
  exact nfr (List.mem_filterMap.mpr ⟨e, List.mem_cons_of_mem _ he, q⟩)
/-- no clause is left: the exception goes on -/
theorem Cgt.out (hs : X.stack = X.env :: X.outer) (hf : X.env.frame = some X.env.locals) (tk : Takes X Wout) {a : Addr} {B : Heap} {sI s : Shared} {cls : Value} {d : Option Addr} {σ : L2.St} {H : Hp} (C : Cgt X pins a B sI s cls d σ H) (w : Wout cls d σ H) :
    wpAny (model X.prog X.w) X.A (handleBy (.ref a) X.env []) (SP X pins D) X.xe s := by
  refine wpAny_handleBy_nil ?_
  have fl := C.fl
  obtain ⟨k1, k2, k3, oe, vs, T, oT, ts', he, hz, hd, h1, hr⟩ := id fl
  unfold PySem.passOn
  refine wpAny_bind (wpAny_field he hd h1 ?_)
  rw [if_neg (show ¬ ((Value.ref T == Value.none) = true) from by simp)]
  have fin : wpAny (model X.prog X.w) X.A (setFlight (.ref a) X.env.frame) (fun _ s4 => wpAny (model X.prog X.w) X.A (throw (.ref a) : Sem Flow) (SP X pins D) X.xe s4) X.xe s := by
    rw [hf]
    exact HandSPX.setFlight_upZ fl fun h4 hh4 up4 => wpAny_throw (tk _ _ ⟨a, B, sI, pins, σ, H, cls, d, rfl, C.J, C.nb, C.up.trans up4, .inr (.inr (by rw [hs]; exact hh4)), C.na, C.os, C.ag, w⟩)
  first
    | exact wpAny_bind (wpAny_pure (wpAny_bind fin))
    | exact wpAny_bind fin
theorem hds_run (hN : X.N.Nodup) (hs : X.stack = X.env :: X.outer) (hf : X.env.frame = some X.env.locals) (tk : Takes X Wout) {hds : List ExceptHandler} {l : List Hd} (hk : HdsM X hds l) {a : Addr} {B : Heap} {sI s : Shared} {cls : Value} {d : Option Addr} {σ : L2.St} {H : Hp}
    (C : Cgt X pins a B sI s cls d σ H) (w : wHds X.K Wout D l cls d σ H) : wpAny (model X.prog X.w) X.A (handleBy (.ref a) X.env hds) (SP X pins D) X.xe s := by
  have ok := C.J.ok
  induction hk with
  | nil => exact C.out hs hf tk w
  | one hc hsu r ih =>
    obtain ⟨b, hb1, hyes, hno⟩ := w
    obtain ⟨oe, he, hz, hv, S⟩ := C.suite hf
    refine wpAny_handleBy_cons (codeAny_handlers_test ?_) (by intro q; cases q)
    refine x_test S hc ((PySem.W.exm_one (M := model X.prog X.w) C.inv.kIn (fun A Q E s k q => wpAny_typeOf_ref (k _ _ he) (by rw [hz.1]; exact q)) hb1).here ?_)
    cases b with
    | false => exact ih (hno rfl)
    | true =>
      refine codeAny_handlers_suite (HandSPX.lands_againZ C.fl fun h4 fl4 up4 => ?_)
      have C4 : Cgt X pins a B sI { s with heap := h4 } cls d σ H := ⟨fl4, C.J, C.nb, C.up.trans up4, C.na, C.os, C.ag⟩
      obtain ⟨oe4, he4, hz4, hv4, S4⟩ := C4.suite hf
      refine wpAny_mono ((hsu a oe4 cls d (X.pn ++ pins) hz4 hv4).run [] _ _ H _ S4 (hyes rfl a C.na)) (fun f s6 hsp => ?_) (fun _ _ z => False.elim z)
      cases f with
      | next => obtain ⟨σ6, H6, S6, q6⟩ := hsp; exact ⟨_, _, S6.unsuite ok, q6⟩
      | brk => obtain ⟨σ6, H6, S6, q6⟩ := hsp; exact ⟨_, _, S6.unsuite ok, q6⟩
      | cont => obtain ⟨σ6, H6, S6, q6⟩ := hsp; exact ⟨_, _, S6.unsuite ok, q6⟩
      | ret u => obtain ⟨v6, σ6, H6, S6, r6, q6⟩ := hsp; exact ⟨_, _, _, S6.unsuite ok, r6, q6⟩
  | @as x n i c ts b₀ su np pos hds l hi hln hc hsu r ih =>
    obtain ⟨b, hb1, hyes, hno⟩ := w
    obtain ⟨oe, he, hz, hv, S⟩ := C.suite hf
    refine wpAny_handleBy_cons (codeAny_handlers_test ?_) (by intro q; cases q)
    refine x_test S hc ((PySem.W.exm_one (M := model X.prog X.w) C.inv.kIn (fun A Q E s k q => wpAny_typeOf_ref (k _ _ he) (by rw [hz.1]; exact q)) hb1).here ?_)
    cases b with
    | false => exact ih (hno rfl)
    | true =>
      refine codeAny_handlers_suite_as (HandSPX.lands_againZ C.fl fun h4 fl4 up4 => ?_)
      have C4 : Cgt X pins a B sI { s with heap := h4 } cls d σ H := ⟨fl4, C.J, C.nb, C.up.trans up4, C.na, C.os, C.ag⟩
      obtain ⟨oe4, he4, hz4, hv4, S4⟩ := C4.suite hf
      refine store_ok (X := X.suite a ((a, oe4) :: (X.pn ++ pins))) (v := .ref a) S4 hN hi (.inl hln) rfl (fun s5 S5 => ?_) (.inr hln)
      refine wpAny_mono ((hsu a oe4 cls d (X.pn ++ pins) hz4 hv4).run [] s5 _ H _ S5 (hyes rfl a C.na)) (fun f s6 hsp => ?_) (fun _ _ z => False.elim z)
      have end_ : ∀ {σ6 : L2.St} {H6 : Hp} {Q : Shared → Prop}, Inv (X.suite a ((a, oe4) :: (X.pn ++ pins))) [] σ6 H6 s6 → (∀ s7, Inv X pins (σ6.set i none) H6 s7 → Q s7) →
          wpAny (model X.prog X.w) X.A (do bindName X.env n .none; unbindBehindTheSuite X.env n pos) (fun _ s7 => Q s7) X.xe s6 := fun {σ6 H6 Q} S6 hq => gone_ok (S6.unsuite ok) hN hi hln hq
      cases f with
      | next => obtain ⟨σ6, H6, S6, q6⟩ := hsp; exact end_ S6 fun s7 J7 => ⟨_, _, J7, q6⟩
      | brk => obtain ⟨σ6, H6, S6, q6⟩ := hsp; exact end_ S6 fun s7 J7 => ⟨_, _, J7, q6⟩
      | cont => obtain ⟨σ6, H6, S6, q6⟩ := hsp; exact end_ S6 fun s7 J7 => ⟨_, _, J7, q6⟩
      | ret u => obtain ⟨v6, σ6, H6, S6, r6, q6⟩ := hsp; exact end_ S6 fun s7 J7 => ⟨_, _, _, J7, r6, q6⟩
theorem ps_try_hds {body : List Stmt} {h₀ : ExceptHandler} {hds : List ExceptHandler} {l : List Hd} {pos : Pos} {tb : WX → TS} (hN : X.N.Nodup) (hs : X.stack = X.env :: X.outer) (hf : X.env.frame = some X.env.locals) (tk : Takes X Wout)
    (hb : ∀ (W : WX) (pn : List (Addr × Obj)) (xe : Value → Shared → Prop), Takes (X.tr pn xe) W → PassesOwn (model X.prog X.w) X.A X.env xe → PSs (X.tr pn xe) body (tb W))
    (hh : HdsM X (h₀ :: hds) l) : PS X (.Try body (h₀ :: hds) [] [] pos) (fun D σ H => tb (wHds X.K Wout D l) D σ H) := by
  refine ⟨fun pins s σ H D I h => ?_⟩
  have ok := I.ok
  have hfr : X.A.frames = some (X.env :: X.outer) := by rw [ok.frames, hs]
  refine wpAny_Try_except ?_
  refine wpAny_mono ((hb (wHds X.K Wout D l) (X.pn ++ pins) (fun e s₁ => wpAny (model X.prog X.w) X.A (noteFrame e X.env) (fun _ s₂ => wpAny (model X.prog X.w) X.A (setFlight e none) (fun _ s₃ =>
    wpAny (model X.prog X.w) X.A (handleBy e X.env (h₀ :: hds)) (SP X pins D) X.xe s₃) X.xe s₂) X.xe s₁) (fun u s' xx => ?_) PassesOwn.looking).run [] s σ H D (I.toTry _) h) (fun f s1 hsp => ?_) (fun e s1 he => he)
  · obtain ⟨a, B, sI, pins', σ', H', cls, d, rfl, J', nb, up, sky, na, os, ag, w⟩ := xx
    have sky' : Sky B (X.env :: X.outer) a (Zc cls d) X.env.locals s'.heap := by rw [← hs]; exact sky
    exact Sky.land Zc.steady hfr hf sky' fun h3 fl3 up3 => hds_run hN hs hf tk hh ⟨fl3, J'.ofTry ok, nb, up.trans up3, na, os, ag⟩ w
  · cases f with
    | next => obtain ⟨σ', H', J', q⟩ := hsp; exact wpAny_execs_nil ⟨σ', H', J'.ofTry ok, q⟩
    | brk => obtain ⟨σ', H', J', q⟩ := hsp; exact ⟨σ', H', J'.ofTry ok, q⟩
    | cont => obtain ⟨σ', H', J', q⟩ := hsp; exact ⟨σ', H', J'.ofTry ok, q⟩
    | ret u => obtain ⟨v, σ', H', J', r, q⟩ := hsp; exact ⟨v, σ', H', J'.ofTry ok, r, q⟩
end
abbrev DHd := List (Str × Bool) × Option Nat × (Str → Option (List (Str × P)) → DS)
def okOnly : R (Fl × Et × Sr) → R (Fl × Et × Sr)
  | .ok r => .ok r
  | _ => .stuck
def dHds (c : Str) (fs : Option (List (Str × P))) (η1 : Et) (st1 : Sr) : List DHd → R (Fl × Et × Sr)
  | [] => .exc c fs η1 st1
  | (tab, oi, su) :: r => match look1 c tab with
    | some true => match oi with
      | some i => if i < η1.length then fromSuite i (su c fs (η1.set i none) st1) else .stuck
      | none => okOnly (su c fs η1 st1)
    | some false => dHds c fs η1 st1 r
    | none => .stuck
def dTryM (b : DS) (hs : List DHd) : DS := fun η st => match b η st with
  | .ok r => .ok r
  | .exc c fs η1 st1 => dHds c fs η1 st1 hs
  | .stuck => .stuck
inductive HdsD (X : Cx) : List ExceptHandler → List DHd → Prop
  | nil : HdsD X [] []
  | one {x xc : Str} {tab : List (Str × Bool)} {su : Str → Option (List (Str × P)) → DS} {b₀ : Stmt} {ss : List Stmt} {np pos : Pos} {hds : List ExceptHandler} {l : List DHd} (hc : Names X x (.ref (He.ga X.K xc)))
      (hT : ∀ c b, (c, b) ∈ tab → PySem.W.exmOne X.K (.ref (He.ga X.K c)) (.ref (He.ga X.K xc)) = some b)
      (hsu : ∀ (a : Addr) (oe : Obj) (pn : List (Addr × Obj)) (c : Str) (fs : Option (List (Str × P))), PSs (X.suite a ((a, oe) :: pn)) (b₀ :: ss) (tS X.K W0 (su c fs))) (r : HdsD X hds l) :
      HdsD X (.ExceptHandler (some (.Name x np)) none (b₀ :: ss) pos :: hds) ((tab, none, su) :: l)
  | as {x n xc : Str} {i : Nat} {tab : List (Str × Bool)} {su : Str → Option (List (Str × P)) → DS} {b₀ : Stmt} {ss : List Stmt} {np pos : Pos} {hds : List ExceptHandler} {l : List DHd} (hc : Names X x (.ref (He.ga X.K xc)))
      (hT : ∀ c b, (c, b) ∈ tab → PySem.W.exmOne X.K (.ref (He.ga X.K c)) (.ref (He.ga X.K xc)) = some b)
      (hsu : ∀ (a : Addr) (oe : Obj) (cls : Value) (d : Option Addr) (pn : List (Addr × Obj)) (c : Str) (fs : Option (List (Str × P))), Zc cls d oe → (∃ vs, oe.data = .fields vs) → PSs (X.suite a ((a, oe) :: pn)) (b₀ :: ss) (tSX X.K W0 a cls d i c fs (su c fs))) (r : HdsD X hds l)
      (hi : X.N[i]? = some n := by rfl) (hln : X.env.kindOf n = some .local := by rfl) :
      HdsD X (.ExceptHandler (some (.Name x np)) (some n) (b₀ :: ss) pos :: hds) ((tab, some i, su) :: l)
section
variable {X : Cx} {W : WX}
theorem hds_af {hds : List ExceptHandler} {dl : List DHd} (hk : HdsD X hds dl) : ∃ l, HdsM X hds l ∧ ∀ (E : Ends) (Z : Hp) (φ : List Addr) (H : Hp) (c : Str) (fs : Option (List (Str × P))) (η1 : Et) (st1 : Sr),
    Af X.K W Z φ H (dHds c fs η1 st1 dl) (GS X.K E) → Af X.K (wHds X.K W E l) Z φ H (.exc c fs η1 st1) (GS X.K E) := by
  induction hk with
  | nil => exact ⟨[], .nil, fun E Z φ H c fs η1 st1 h => h⟩
  | @one x xc tab su b₀ ss np pos hds dl hc hT hsu r ih =>
    obtain ⟨l, hl, go⟩ := ih
    refine ⟨(.ref (He.ga X.K xc), none, fun a cls d E σ H => ∃ c fs, tS X.K W0 (su c fs) E σ H) :: l, .one hc (fun a oe cls d pn hz hv => ⟨fun pins s σ H D I ⟨c, fs, h⟩ => (hsu a oe pn c fs).run pins s σ H D I h⟩) hl, fun E Z φ H c fs η1 st1 af => ?_⟩
    unfold dHds at af
    cases el : look1 c tab with
    | none => rw [el] at af; exact af.elim
    | some bv =>
      rw [el] at af
      have hex := hT c bv (look1_mem el)
      cases bv with
      | false =>
        have q := go E Z φ H c fs η1 st1 af
        intro σ' H' Z' φ' t rs' sl'
        have q := q σ' H' Z' φ' t rs' sl'
        cases fs with
        | none => exact ⟨false, hex, fun z => Bool.noConfusion z, fun _ => q⟩
        | some l => exact fun dx gs h1 h2 => ⟨false, hex, fun z => Bool.noConfusion z, fun _ => q dx gs h1 h2⟩
      | true =>
        dsimp only at af
        intro σ' H' Z' φ' t rs' sl'
        have main : ∃ c' fs', tS X.K W0 (su c' fs') E σ' H' := by
          refine ⟨c, fs, Z', φ', η1, st1, rs', sl', ?_⟩
          have af1 := af.later t
          cases es : su c fs η1 st1 with
          | ok r => rw [es] at af1; exact af1
          | exc => rw [es] at af1; exact af1.elim
          | stuck => rw [es] at af1; exact af1.elim
        cases fs with
        | none => exact ⟨true, hex, fun _ a ha => main, fun z => Bool.noConfusion z⟩
        | some l => exact fun dx gs h1 h2 => ⟨true, hex, fun _ a ha => main, fun z => Bool.noConfusion z⟩
  | @as x n xc i tab su b₀ ss np pos hds dl hc hT hsu r hi hln ih =>
    obtain ⟨l, hl, go⟩ := ih
    refine ⟨(.ref (He.ga X.K xc), some (i, n), fun a cls d E σ H => ∃ c fs, tSX X.K W0 a cls d i c fs (su c fs) E σ H) :: l, .as hi hln hc (fun a oe cls d pn hz hv => ⟨fun pins s σ H D I ⟨c, fs, h⟩ => (hsu a oe cls d pn c fs hz hv).run pins s σ H D I h⟩) hl, fun E Z φ H c fs η1 st1 af => ?_⟩
    unfold dHds at af
    cases el : look1 c tab with
    | none => rw [el] at af; exact af.elim
    | some bv =>
      rw [el] at af
      have hex := hT c bv (look1_mem el)
      cases bv with
      | false =>
        have q := go E Z φ H c fs η1 st1 af
        intro σ' H' Z' φ' t rs' sl'
        have q := q σ' H' Z' φ' t rs' sl'
        cases fs with
        | none => exact ⟨false, hex, fun z => Bool.noConfusion z, fun _ => q⟩
        | some l => exact fun dx gs h1 h2 => ⟨false, hex, fun z => Bool.noConfusion z, fun _ => q dx gs h1 h2⟩
      | true =>
        dsimp only at af
        split at af
        · rename_i hlen
          have main : ∀ (σ' : L2.St) (H' Z' : Hp) (φ' : List Addr) (d : Option Addr) (a : Addr), Step Z φ H Z' φ' H' → RS X.K Z' φ' st1 H' → Slots X.K Z' φ' η1 σ' → XF X.K a (.ref (He.ga X.K c)) d i c fs Z' (σ'.set i (some (.ref a))) →
              ∃ c' fs', tSX X.K W0 a (.ref (He.ga X.K c)) d i c' fs' (su c' fs') (ends_ i E) (σ'.set i (some (.ref a))) H' := by
            intro σ' H' Z' φ' d a t rs' sl' xf
            refine ⟨c, fs, Z', φ', η1.set i none, st1, rs', sl'.unset, xf, ?_⟩
            have af1 := af.later t
            cases es : su c fs (η1.set i none) st1 with
            | ok r =>
              obtain ⟨fl, η2, st2⟩ := r
              rw [es] at af1
              intro Z2 φ2 H2 t2 rs2
              have g2 := af1 Z2 φ2 H2 t2 rs2
              cases fl with
              | nx => exact fun σ2 sl2 _ => g2 _ sl2.unset
              | bk => exact fun σ2 sl2 => g2 _ sl2.unset
              | ct => exact fun σ2 sl2 => g2 _ sl2.unset
              | rt x => exact g2
            | exc => rw [es] at af1; exact af1.elim
            | stuck => rw [es] at af1; exact af1.elim
          have at_ : ∀ (σ' : L2.St) (a : Addr), η1.length = σ'.length → (σ'.set i (some (V.ref a)))[i]? = some (some (.ref a)) := fun σ' a hl => by
            rw [List.getElem?_set_self (by rw [← hl]; exact hlen)]
          intro σ' H' Z' φ' t rs' sl'
          cases fs with
          | none => exact ⟨true, hex, fun _ a ha => main σ' H' Z' φ' none a t rs' sl' ⟨at_ σ' a sl'.len, rfl, trivial, .inl rfl⟩, fun z => Bool.noConfusion z⟩
          | some l =>
            intro dx gs h1 h2
            obtain ⟨Z2, sz, hz2, rs2, t2⟩ := rs'.freezeX h1
            exact ⟨true, hex, fun _ a ha => main σ' H' Z2 φ' (some dx) a (t.trans t2) rs2 (sl'.mono t2) ⟨at_ σ' a sl'.len, rfl, ⟨dx, gs, rfl, hz2, RepF.mono sz _ _ h2⟩, .inr ⟨dx, gs, rfl, hz2⟩⟩, fun z => Bool.noConfusion z⟩
        · exact af.elim
theorem ds_tryM {body : List Stmt} {h₀ : ExceptHandler} {hds : List ExceptHandler} {dl : List DHd} {pos : Pos} {b : DS} (hN : X.N.Nodup) (tk : Takes X W)
    (hb : ∀ (W' : WX) (pn : List (Addr × Obj)) (xe : Value → Shared → Prop), Takes (X.tr pn xe) W' → PassesOwn (model X.prog X.w) X.A X.env xe → PSs (X.tr pn xe) body (tS X.K W' b))
    (hk : HdsD X (h₀ :: hds) dl) (hs : X.stack = X.env :: X.outer := by rfl) (hf : X.env.frame = some X.env.locals := by rfl) :
    PS X (.Try body (h₀ :: hds) [] [] pos) (tS X.K W (dTryM b dl)) := by
  obtain ⟨l, hl, go⟩ := hds_af (W := W) hk
  refine (ps_try_hds (tb := fun W' => tS X.K W' b) hN hs hf tk hb hl).to fun E σ H h => ?_
  obtain ⟨Z, φ, η, st, rs, sl, af⟩ := h
  refine ⟨Z, φ, η, st, rs, sl, ?_⟩
  unfold dTryM at af
  cases e : b η st with
  | ok r => rw [e] at af; exact af
  | stuck => rw [e] at af; exact af.elim
  | exc c fs η1 st1 => rw [e] at af; exact go E Z φ H c fs η1 st1 af
/-- raise C('text'), C without an own __init__ -/
def dRaiseT (c : Str) : DS := fun η st => .exc c none η st
end
end M
end
section
set_option Elab.async false
set_option linter.all false
set_option maxRecDepth 100000
set_option maxHeartbeats 0
namespace M
open PySem L2
def conB (K : PySem.W.Frag) (c f : Str) (p : P) : Bool := match PySem.W.findIn K (.ref (He.ga K c)) f with
  | some (some u) => (match absV u with
    | some v => He.relB v u && repB K p v
    | none => false) && (match PySem.W.specialIn K u "__get__" with
    | some none => true
    | _ => false)
  | _ => false
/-- what a class's constant is -/
def ConT (K : PySem.W.Frag) (f c : Str) (p : P) : Prop := Cls K (He.ga K c) ∧ ∃ v u, Con K (He.ga K c) f v u ∧ repB K p v = true
theorem conT_of {K : PySem.W.Frag} {f c : Str} {p : P} (hc : Cls K (He.ga K c)) (h : conB K c f p = true) (hn : PySem.W.copiedNames.contains f = false) : ConT K f c p := by
  unfold conB at h
  split at h
  · rename_i u e1
    rw [Bool.and_eq_true] at h
    obtain ⟨h1, h2⟩ := h
    split at h1
    · rename_i v e2
      rw [Bool.and_eq_true] at h1
      split at h2
      · rename_i e3
        exact ⟨hc, v, u, ⟨e1, He.relB_ok h1.1, e3, hn⟩, h1.2⟩
      · cases h2
    · cases h1
  · cases h
theorem ctab_nil {Q : Str → P → Prop} : ∀ c p, (c, p) ∈ ([] : List (Str × P)) → Q c p := fun _ _ h => by cases h
theorem ctab_cons {Q : Str → P → Prop} {c : Str} {p : P} {l : List (Str × P)} (h : Q c p) (r : ∀ c p, (c, p) ∈ l → Q c p) : ∀ c' p', (c', p') ∈ (c, p) :: l → Q c' p' := fun c' p' hm => by
  rcases List.mem_cons.mp hm with e | e
  · cases e; exact h
  · exact r _ _ e
def dCon (f : Str) (tab : List (Str × P)) (e : DE) : DE := fun η st => (e η st).bind fun a => match (clsM f a.2 a.1).bind fun c => look1 c tab with
  | some p => .ok (.fz p, a.2)
  | none => .stuck
section
variable {X : Cx} {W : WX} {e : Expr} {f : Str} {pos : Pos} {fe : DE} {tab : List (Str × P)}
theorem de_con (hT : ∀ c p, (c, p) ∈ tab → ConT X.K f c p) (he : PE X e (tE X.K W fe)) (hb : attributeBase e f X.env (eval e X.env) = eval e X.env := by rfl) : PE X (.Attribute e f pos) (tE X.K W (dCon f tab fe)) := by
  refine (pe_con he hb).to fun σ H Q h => ?_
  obtain ⟨Z, φ, η, st, rs, sl, af⟩ := h
  refine ⟨Z, φ, η, st, rs, sl, af.bind.mono fun a Z' φ' H' t g' rs' v r => ?_⟩
  split at g'
  · rename_i p eF
    obtain ⟨c, ec, el⟩ := Option.bind_eq_some_iff.mp eF
    obtain ⟨x, dx, gs, rfl, hx, hn⟩ := clsM_ok rs' ec r
    obtain ⟨hc, v, u, hcon, hrep⟩ := hT c p (look1_mem el)
    exact ⟨x, _, dx, gs, v, u, rfl, hx, hc, hcon, hn, g'.here rs' (repB_ok _ _ hrep)⟩
  · exact g'.elim
end
def pairsP : List P → Option (List (Int × Int))
  | [] => some []
  | .tup [.int i, .int j] :: r => match pairsP r with
    | some l => some ((i, j) :: l)
    | none => none
  | _ => none
def prP (q : Int × Int) : P := .tup [.int q.1, .int q.2]
def lexLe (a b : Int × Int) : Bool := !SrtO.lexB b a
def sortG (ds : List D) (st : Sr) : R (D × Sr) := match ds with
  | [d] => match (peek st d).bind itemsP with
    | some ps => match intsP ps with
      | some is => .ok (.fz (.lst ((is.mergeSort fun i j => decide (i ≤ j)).map P.int)), st)
      | none => match ((peek st d).bind lstP').bind pairsP with
        | some qs => .ok (.fz (.lst ((qs.mergeSort lexLe).map prP)), st)
        | none => .stuck
    | none => .stuck
  | _ => .stuck
theorem pairsP_eq : ∀ {ps : List P} {qs : List (Int × Int)}, pairsP ps = some qs → ps = qs.map prP
  | [], qs, h => by cases h; rfl
  | p :: r, qs, h => by
    unfold pairsP at h
    split at h
    · rename_i e; cases e
    · rename_i i j r' e
      cases e
      split at h
      · rename_i l e2
        cases h
        rw [pairsP_eq e2]; rfl
      · cases h
    · cases h
theorem lex_le {a b : Int × Int} : lexLe a b = true ↔ a.1 < b.1 ∨ (a.1 = b.1 ∧ a.2 ≤ b.2) := by
  unfold lexLe
  rw [Bool.not_eq_true', SrtO.lexB_no]; omega
theorem lex_sorted (qs : List (Int × Int)) : (qs.mergeSort lexLe).Pairwise fun a b => lexLe a b = true := List.pairwise_mergeSort (le := lexLe) (fun a b c h1 h2 => by rw [lex_le] at *; omega) (fun a b => by rw [Bool.or_eq_true, lex_le, lex_le]; omega) qs
theorem lex_uniq {l m : List (Int × Int)} (hl : l.Pairwise fun a b => lexLe a b = true) (hm : m.Pairwise fun a b => lexLe a b = true) (p : l.Perm m) : l = m :=
  p.eq_of_pairwise (fun a b _ _ h1 h2 => by rw [lex_le] at *; exact Prod.ext (by omega) (by omega)) hl hm
section
variable {X : Cx} {W : WX}
/-- sorted of pairs that stand anywhere -/
theorem cr_sortedPS : CallR X (.builtin "sorted") (fun vs H Q => ∃ (a : Addr) (xs : List V) (k : V → Int × Int), vs = [V.ref a] ∧ SqL X.K H a xs ∧ (∀ x ∈ xs, ∃ t, x = V.ref t ∧ SqT X.K H t [.int (k x).1, .int (k x).2]) ∧ ∀ ys p, SrtO.Srtd (ltP k) ys → SrtO.Stb (ltP k) ys xs → H p = none → Q (.ref p) (upd H p (.lst ys))) := by
  intro pins s σ H vs us Q I r h
  obtain ⟨a, xs, k, rfl, hs, hx, q⟩ := h
  obtain ⟨its, rv, hl, hz⟩ := I.list hs
  obtain ⟨u, rfl, ru⟩ := vals1 r
  obtain rfl : u = Value.ref a := ru
  obtain ⟨e1, e2⟩ := refs_back rv fun x m => by
    obtain ⟨t, e, _⟩ := hx x m
    exact ⟨t, e⟩
  refine SrtO.sorted_pairsO (k := fun u => k (backV u)) hl.isList (by rw [← rv.length]; exact hz) (fun v hv => ?_) fun h' d out h1 h2 kp hd hn => ?_
  · obtain ⟨t, rfl⟩ := e2 v hv
    have hm : V.ref t ∈ xs := by rw [e1]; exact List.mem_map.mpr ⟨_, hv, rfl⟩
    obtain ⟨t', e, ht⟩ := hx _ hm
    cases e
    obtain ⟨its2, r2, ⟨o, ho, hc, n, hd⟩, _⟩ := I.tuple ht
    obtain ⟨u1, u2, rfl, ri, rj⟩ := vals2 r2
    obtain ⟨t1, rfl⟩ := ri
    obtain ⟨t2, rfl⟩ := rj
    exact ⟨t, o, t1, t2, n, rfl, ho, hc, hd⟩
  · have h3 : ∀ u ∈ out, ∃ a, u = Value.ref a := fun u hu => e2 u (h2.perm.mem_iff.mp hu)
    obtain ⟨n, hn⟩ := hn
    have hb : SrtO.Stb (ltP k) (out.map backV) xs := by
      rw [e1]
      exact SrtO.Stb.map (ltP_swo k) backV h2
    refine ⟨.ref d, upd H d (.lst (out.map backV)), I.laid (t' := s.toks) kp hd ⟨?_, out, n, vals_back h3, hn⟩, rfl, q _ d (SrtO.srtd_map h1) hb (I.hok.fresh hd)⟩
    rw [hb.len]
    exact hz
theorem reps_map {K : PySem.W.Frag} {Z : Hp} {k : V → Int × Int} : ∀ {ys : List V}, (∀ y ∈ ys, Rep K Z (prP (k y)) y) → Reps K Z ((ys.map k).map prP) ys
  | [], _ => Reps.nil
  | y :: ys, h => Reps.cons (h y List.mem_cons_self) (reps_map fun z hz => h z (List.mem_cons_of_mem _ hz))
theorem reps_pairs {K : PySem.W.Frag} {Z : Hp} {k : V → Int × Int} : ∀ {qs : List (Int × Int)} {vs : List V}, Reps K Z (qs.map prP) vs → (∀ q v, Rep K Z (prP q) v → v ∈ vs → k v = q) → vs.map k = qs
  | [], vs, h, _ => by rw [List.map_nil, Reps] at h; subst h; rfl
  | q :: qs, vs, h, hk => by
    rw [List.map_cons, Reps] at h
    obtain ⟨v, ws, rfl, h2, h3⟩ := h
    rw [List.map_cons, hk q v h2 List.mem_cons_self, reps_pairs h3 fun q v h hm => hk q v h (List.mem_cons_of_mem _ hm)]
theorem rep_pr {K : PySem.W.Frag} {Z : Hp} {q : Int × Int} {v : V} (h : Rep K Z (prP q) v) : ∃ t, v = .ref t ∧ SqT K Z t [.int q.1, .int q.2] := by
  unfold prP at h
  rw [Rep] at h
  obtain ⟨a, vs, rfl, h1, h2⟩ := h
  rw [Reps] at h2
  obtain ⟨v1, w1, rfl, h3, h4⟩ := h2
  rw [Reps] at h4
  obtain ⟨v2, w2, rfl, h5, h6⟩ := h4
  rw [Reps] at h6
  subst h6
  rw [Rep] at h3 h5
  subst h3; subst h5
  exact ⟨a, rfl, h1⟩
theorem c_sortG (hu : X.A.units + 3 < cLine) : CallR X (.builtin "sorted") (rMA X.K W sortG) := by
  intro pins s σ H xs us Q I r ⟨ds, Z, φ, st, rs, rdd, af⟩
  unfold sortG at af
  split at af
  · split at af
    · rename_i d ps e1
      split at af
      · rename_i is e2
        refine c_sortF (W := W) hu pins s σ H xs us Q I r ⟨_, Z, φ, st, rs, rdd, ?_⟩
        unfold sortF
        dsimp only
        rw [e1]
        show Af X.K W Z φ H (match intsP ps with | some is => _ | none => _) _
        rw [e2]; exact af
      · split at af
        · rename_i qs e3
          obtain ⟨v, rfl, rd⟩ := rdd.one
          obtain ⟨ys, e4, e5⟩ := Option.bind_eq_some_iff.mp e3
          obtain ⟨pd, e6, e7⟩ := Option.bind_eq_some_iff.mp e4
          obtain ⟨la, lvs, hv, hls, hli⟩ : ∃ la lvs, v = .ref la ∧ SqL X.K H la lvs ∧ Reps X.K Z ys lvs := by
            have pk := peek_pk rs e6 rd
            cases pd with
            | lst ys => cases e7; obtain ⟨a, vs, h1, h2, h3⟩ := pk; exact ⟨a, vs, h1, SqL.of h2, h3⟩
            | rol ys => cases e7; obtain ⟨a, vs, h1, h2, h3⟩ := pk; exact ⟨a, vs, h1, h2, h3⟩
            | _ => cases e7
          subst hv
          rw [pairsP_eq e5] at hli
          have hex : ∀ x ∈ lvs, ∃ q : Int × Int, Rep X.K Z (prP q) x := fun x hx => by
            obtain ⟨i, hi⟩ := List.getElem?_of_mem hx
            have hl := hli.length
            have hlt : i < (qs.map prP).length := by rw [hl]; exact (List.getElem?_eq_some_iff.mp hi).1
            obtain ⟨w, h1, h2⟩ := hli.get (List.getElem?_eq_getElem hlt)
            rw [hi] at h1
            cases h1
            rw [List.getElem_map] at h2
            exact ⟨_, h2⟩
          obtain ⟨k, hk⟩ : ∃ k : V → Int × Int, ∀ x ∈ lvs, Rep X.K Z (prP (k x)) x := by
            classical
            exact ⟨fun x => if h : ∃ q : Int × Int, Rep X.K Z (prP q) x then h.choose else (0, 0), fun x hx => by
              dsimp only
              rw [dif_pos (hex x hx)]; exact (hex x hx).choose_spec⟩
          have hT : ∀ {q : Int × Int} {x : V}, Rep X.K Z (prP q) x → ∃ t, x = .ref t ∧ SqT X.K H t [.int q.1, .int q.2] := fun h => by
            obtain ⟨t, h1, h2⟩ := rep_pr h
            exact ⟨t, h1, same_sqT rs.same h2⟩
          have hkq : lvs.map k = qs := reps_pairs hli fun q v hq hm => by
            obtain ⟨t, h1, h2⟩ := hT hq
            obtain ⟨t', h3, h4⟩ := hT (hk v hm)
            rw [h1] at h3
            cases h3
            have := I.tuple_inj h2 h4
            injection this with a1 a2
            injection a2 with a2 _
            injection a1 with a1
            injection a2 with a2
            exact Prod.ext a1.symm a2.symm
          refine cr_sortedPS pins s σ H _ us Q I r ⟨la, lvs, k, rfl, hls, fun x hx => hT (hk x hx), fun zs p hz hb hp => ?_⟩
          refine af.newZ rs hp fun sz => ?_
          rw [Rep]
          refine ⟨p, zs, rfl, upd_same, Reps.mono sz _ _ ?_⟩
          have he : zs.map k = qs.mergeSort lexLe := by
            refine lex_uniq ?_ (lex_sorted qs) ?_
            · rw [List.pairwise_map]
              exact hz.imp fun {x y} h => by
                unfold lexLe
                have h' : SrtO.lexB (k y) (k x) = false := h
                rw [h']; rfl
            · exact ((hb.perm.map k).trans (by rw [hkq])).trans (List.mergeSort_perm qs lexLe).symm
          rw [← he]
          exact reps_map fun y hy => hk y (hb.perm.mem_iff.mp hy)
        · exact af.elim
    · exact af.elim
  · exact af.elim
end
end M
end
section
set_option Elab.async false
set_option linter.all false
set_option maxRecDepth 100000
set_option maxHeartbeats 0
namespace M
open PySem L2
section
variable {K : PySem.W.Frag} {Z H : Hp} {φ : List Addr}
theorem RepDF.look {f : Str} : ∀ {fs : List (Str × D)} {gs : List (Str × V)} {d : D}, RepDF K Z φ fs gs → fs.lookup f = some d → ∃ v, gs.lookup f = some v ∧ RepD K Z φ d v
  | [], gs, p, h, e => by cases e
  | (k, q) :: fs, gs, p, h, e => by
    obtain ⟨v, ws, rfl, h1, h2⟩ := h
    rw [List.lookup_cons] at e
    rw [List.lookup_cons]
    split at e
    · rename_i hk; cases e; exact ⟨v, rfl, h1⟩
    · rename_i hk
      obtain ⟨v', g1, g2⟩ := RepDF.look h2 e
      exact ⟨v', g1, g2⟩
def putD (f : Str) (d : D) : List (Str × D) → List (Str × D)
  | [] => [(f, d)]
  | (g, x) :: r => if g = f then (g, d) :: r else (g, x) :: putD f d r
theorem putD_ok {f : Str} {d : D} {w : V} (hd : RepD K Z φ d w) : ∀ {fs : List (Str × D)} {gs : List (Str × V)}, RepDF K Z φ fs gs → RepDF K Z φ (putD f d fs) (putF f w gs)
  | [], gs, h => by cases h; exact ⟨w, [], rfl, hd, rfl⟩
  | (k, q) :: fs, gs, h => by
    obtain ⟨v, ws, rfl, h1, h2⟩ := h
    unfold putD putF
    by_cases e : k = f
    · rw [if_pos e, if_pos e]; exact ⟨w, ws, rfl, hd, h2⟩
    · rw [if_neg e, if_neg e]; exact ⟨v, _, rfl, h1, putD_ok hd h2⟩
theorem RepDF.len : ∀ {fs : List (Str × D)} {gs : List (Str × V)}, RepDF K Z φ fs gs → fs.length = gs.length
  | [], gs, h => by cases h; rfl
  | (k, q) :: fs, gs, h => by obtain ⟨v, ws, rfl, _, h2⟩ := h; simp [RepDF.len h2]
def fldD (f : Str) (cs : List Str) (st : Sr) : D → Option D
  | .fz (.obj c fs) => if cs.contains c = true then (fs.lookup f).map D.fz else none
  | .cell n => match st[n]? with
    | some (.obj c fs) => if cs.contains c = true then fs.lookup f else none
    | some (.frz (.obj c fs)) => if cs.contains c = true then (fs.lookup f).map D.fz else none
    | _ => none
  | _ => none
theorem fldD_ok {f : Str} {cs : List Str} {st : Sr} {d d' : D} {v : V} (rs : RS K Z φ st H) (e : fldD f cs st d = some d') (r : RepD K Z φ d v) : ∃ a c dx gs w, v = .ref a ∧ H a = some (.ins (He.ga K c) dx gs) ∧ cs.contains c = true ∧ gs.lookup f = some w ∧ RepD K Z φ d' w := by
  have fzc : ∀ {c : Str} {fs : List (Str × P)} {v : V}, (if cs.contains c = true then (fs.lookup f).map D.fz else none) = some d' → Rep K Z (.obj c fs) v → ∃ a c dx gs w, v = .ref a ∧ H a = some (.ins (He.ga K c) dx gs) ∧ cs.contains c = true ∧ gs.lookup f = some w ∧ RepD K Z φ d' w := by
    intro c fs v e h
    split at e
    · rename_i hc
      obtain ⟨p, e1, rfl⟩ := Option.map_eq_some_iff.mp e
      rw [Rep] at h
      obtain ⟨a, dx, gs, rfl, h2, h3⟩ := h
      obtain ⟨w, g1, g2⟩ := h3.look e1
      exact ⟨a, c, dx, gs, w, rfl, rs.same _ _ h2, hc, g1, g2⟩
    · cases e
  cases d with
  | fz p =>
    cases p with
    | obj c fs => exact fzc e r
    | _ => cases e
  | cell n =>
    obtain ⟨a, h1, rfl⟩ := r
    obtain ⟨ct, hc, rc⟩ := rs.at_ h1
    have e' : (match st[n]? with
      | some (.obj c fs) => if cs.contains c = true then fs.lookup f else none
      | some (.frz (.obj c fs)) => if cs.contains c = true then (fs.lookup f).map D.fz else none
      | _ => none) = some d' := e
    rw [hc] at e'
    cases ct with
    | obj c fs =>
      dsimp only at e'
      split at e'
      · rename_i hcc
        obtain ⟨_, dx, gs, h2, h3⟩ := rc
        obtain ⟨w, g1, g2⟩ := h3.look e'
        exact ⟨a, c, dx, gs, w, rfl, h2, hcc, g1, g2⟩
      · cases e'
    | frz p =>
      cases p with
      | obj c fs => exact fzc e' rc.1
      | _ => cases e'
    | lst xs => cases e'
    | dct xs => cases e'
    | lsD xs => cases e'
    | tuD xs => cases e'
    | ldct xs => cases e'
end
/-- e.f -/
def dFld (f : Str) (cs : List Str) (g : DE) : DE := fun η st => (g η st).bind fun a => match fldD f cs a.2 a.1 with
  | some d => .ok (d, a.2)
  | none => .stuck
/-- o.f = v -/
def dSetA (f : Str) (cs : List Str) (v o : DE) : DS := fun η st => (v η st).bind fun a => (o η a.2).bind fun b => match b.1 with
  | .cell n => match b.2[n]? with
    | some (.obj c fs) => if cs.contains c = true ∧ fs.length < 1000 then .ok (.nx, η, b.2.set n (.obj c (putD f a.1 fs))) else .stuck
    | _ => .stuck
  | _ => .stuck
def FldT (K : PySem.W.Frag) (f : Str) (c : Str) : Prop := Cls K (He.ga K c) ∧ NoAttr K (He.ga K c) f
section
variable {X : Cx} {W : WX} {e o value : Expr} {f : Str} {pos pos' : Pos} {fe fo fv : DE} {cs : List Str}
theorem de_fld (hT : ∀ c, cs.contains c = true → FldT X.K f c) (he : PE X e (tE X.K W fe)) (hb : attributeBase e f X.env (eval e X.env) = eval e X.env := by rfl) : PE X (.Attribute e f pos) (tE X.K W (dFld f cs fe)) := by
  refine (pe_fld he hb).to fun σ H Q h => ?_
  obtain ⟨Z, φ, η, st, rs, sl, af⟩ := h
  refine ⟨Z, φ, η, st, rs, sl, af.bind.mono fun a Z' φ' H' t g' rs' v r => ?_⟩
  split at g'
  · rename_i d e1
    obtain ⟨x, c, dx, gs, w, rfl, hx, hc, hl, hw⟩ := fldD_ok rs' e1 r
    obtain ⟨h1, h2⟩ := hT c hc
    exact ⟨x, _, dx, gs, w, rfl, hx, h1, h2, hl, g'.here rs' hw⟩
  · exact g'.elim
theorem ds_setA (hT : ∀ c, cs.contains c = true → FldT X.K f c) (hv : PE X value (tE X.K W fv)) (ho : PE X o (tE X.K W fo)) (hs : swapsWith value (some (.Attribute o f pos')) pos.line X.env = pure false := by rfl) : PS X (.Assign [.Attribute o f pos'] value pos) (tS X.K W (dSetA f cs fv fo)) := by
  refine (ps_fld ho hv hs).to fun E σ H hh => ?_
  obtain ⟨Z, φ, η, st, rs, sl, af⟩ := hh
  refine ⟨Z, φ, η, st, rs, sl, af.bind.mono fun a Z' φ' H' t g' rs' v r => ?_⟩
  refine ⟨Z', φ', η, a.2, rs', sl.mono t, g'.bind.mono fun b Z2 φ2 H2 t2 g2 rs2 u r2 => ?_⟩
  split at g2
  · rename_i n en
    rw [en] at r2
    split at g2
    · rename_i c fs e1
      split at g2
      · rename_i hz
        obtain ⟨ad, had, rfl⟩ := r2
        obtain ⟨ct, hct, rc⟩ := rs2.at_ had
        rw [e1] at hct; cases hct
        obtain ⟨hzn, dx, gs, hH, hR⟩ := rc
        obtain ⟨h1, h2⟩ := hT c hz.1
        refine ⟨ad, _, dx, gs, rfl, hH, h1, h2, by rw [← hR.len]; exact hz.2, ?_⟩
        have rv := r.mono t2.hz t2.app
        obtain ⟨rs5, t5⟩ := rs2.write (o := .ins (He.ga X.K c) dx (putF f v gs)) (c := .obj c (putD f a.1 fs)) had hzn ⟨hzn, dx, _, upd_same, putD_ok rv hR⟩ (fun _ _ z => by rw [hH] at z; cases z)
        exact g2 _ _ _ t5 rs5 σ ((((sl.mono t).mono t2)).mono t5)
      · exact g2.elim
    · exact g2.elim
  · exact g2.elim
end
def frzFs (st : Sr) : List (Str × D) → Option (List (Str × P) × Sr)
  | [] => some ([], st)
  | (k, d) :: fs => match toP st d with
    | some (p, st1) => match frzFs st1 fs with
      | some (ps, st2) => some ((k, p) :: ps, st2)
      | none => none
    | none => none
def frzO (st : Sr) (n : Nat) : Option (P × Sr) := match st[n]? with
  | some (.obj c fs) => match frzFs st fs with
    | some (ps, st') => match st'[n]? with
      | some (.obj _ _) => some (.obj c ps, st'.set n (.frz (.obj c ps)))
      | _ => none
    | none => none
  | _ => none
def frzE (n : Nat) (b : D × Sr) : R (D × Sr) := match b.1 with
  | .fz .non => match frzO b.2 n with
    | some (p, st) => .ok (.fz p, st)
    | none => .stuck
  | _ => .stuck
def dNew (c : Str) (F : DF) (g : DA) : DE := fun η st => (g η st).bind fun a => (callF F (.cell a.2.length :: a.1) η (a.2 ++ [.obj c []])).bind fun b => frzE a.2.length b
section
variable {K : PySem.W.Frag} {H : Hp} {φ : List Addr}
theorem frzFs_ok : ∀ {fs : List (Str × D)} {Z : Hp} {st st' : Sr} {ps : List (Str × P)} {gs : List (Str × V)}, RS K Z φ st H → frzFs st fs = some (ps, st') → RepDF K Z φ fs gs → ∃ Z', Frz Z Z' H φ ∧ RS K Z' φ st' H ∧ RepF K Z' ps gs
  | [], Z, st, st', ps, gs, h, e, r => by cases e; cases r; exact ⟨Z, .refl, h, by rw [RepF]⟩
  | (k, d) :: fs, Z, st, st', ps, gs, h, e, r => by
    obtain ⟨v, ws, rfl, r1, r2⟩ := r
    unfold frzFs at e
    split at e
    · rename_i p st1 e1
      split at e
      · rename_i qs st2 e2
        cases e
        obtain ⟨Z1, f1, rs1, q1⟩ := toP_ok h e1 r1
        obtain ⟨Z2, f2, rs2, q2⟩ := frzFs_ok rs1 e2 (r2.mono f1.hz ⟨[], by simp⟩)
        exact ⟨Z2, f1.trans f2, rs2, by rw [RepF]; exact ⟨v, ws, rfl, q1.mono f2.hz, q2⟩⟩
      · cases e
    · cases e
theorem frzO_ok {Z : Hp} {st st' : Sr} {n : Nat} {p : P} {a : Addr} (h : RS K Z φ st H) (e : frzO st n = some (p, st')) (ha : φ[n]? = some a) : ∃ Z', Frz Z Z' H φ ∧ RS K Z' φ st' H ∧ Rep K Z' p (.ref a) := by
  unfold frzO at e
  split at e
  · rename_i c fs e1
    split at e
    · rename_i ps st2 e2
      split at e
      · rename_i c2 fs2 e3
        cases e
        obtain ⟨ct, hct, rc⟩ := h.at_ ha
        rw [e1] at hct; cases hct
        obtain ⟨_, dx, gs, h2, h3⟩ := rc
        obtain ⟨Z1, f1, rs1, q1⟩ := frzFs_ok h e2 h3
        obtain ⟨ct2, hct2, rc2⟩ := rs1.at_ ha
        rw [e3] at hct2; cases hct2
        have hz := rc2.1
        obtain ⟨q2, q3⟩ := rs1.freeze (p := .obj c ps) ha hz h2 dat_ins fun sz => by rw [Rep]; exact ⟨a, dx, gs, rfl, upd_same, RepF.mono sz _ _ q1⟩
        exact ⟨_, f1.trans q3, q2, by rw [Rep]; exact ⟨a, dx, gs, rfl, upd_same, RepF.mono q3.hz _ _ q1⟩⟩
      · cases e
    · cases e
  · cases e
end
/-- what is wanted of a class that is made -/
def NewT (P : Program) (w : World) (K : PySem.W.Frag) (mg : Str → Option Value) (base : Heap) (k : Nat) (ps : List Str) (c : Str) (F : DF) : Prop :=
  ∃ f2 fd, Mk K (He.ga K c) f2 ∧ FnOk P w K mg base (L2.CX P w) k f2 fd ps (spF K F) ∧ Binds K fd ps []
section
variable {X : Cx} {W : WX} {x c : Str} {p pos : Pos} {e : Expr} {es : List Expr} {fs : DA} {k j : Nat} {ps : List Str} {F : DF}
theorem de_new (tk : Takes X W) (hN : NewT X.prog X.w X.K X.mg X.base k ps c F) (hr : Room j X.A) (hm : X.mg x = some (.ref (He.ga X.K c))) (ha : PA X (e :: es) (tA X.K W fs)) (hk : k + 1 ≤ j := by decide) (hg : Gl X x := by rfl)
    (hdb : (x == ("__debug__" : Str)) = false := by decide)
    (he : starEach (e :: es) X.env = (false, eval e X.env) :: starEach es X.env := by rfl) (hpl : (backTo pos (starEach es X.env)).any (·.1) = false := by rfl) : PE X (.Call (.Name x p) (e :: es) [] pos) (tE X.K W (dNew c F fs)) := by
  obtain ⟨f2, fd, M0, F0, hb⟩ := hN
  refine ⟨fun pins s σ H Q I h => ?_⟩
  obtain ⟨Z, φ, η, st, rs, sl, af⟩ := h
  refine wpAny_Call_Name_kw (ld_glob I hg hm ?_ hdb)
  refine PySem.W.callWith_K (h₀ := X.base) I.ok.mod.kin M0.kp (thn (ha.run pos pins s σ H (fun vs H1 => ∃ ds Z φ st, RS X.K Z φ st H1 ∧ Slots X.K Z φ η σ ∧ RepDs X.K Z φ ds vs ∧ Af X.K W Z φ H1 ((callF F (.cell st.length :: ds) η (st ++ [.obj c []])).bind fun b => frzE st.length b) (GE X.K Q)) I ⟨Z, φ, η, st, rs, sl, af.bind.mono fun a Z' φ' H' t g' rs' vs r => ⟨a.1, Z', φ', a.2, rs', sl.mono t, r, g'⟩⟩) fun us s1 ⟨vs, H1, I1, r, q⟩ => ⟨I1.kIn, ?_⟩) he hpl
  obtain ⟨ds, Z1, φ1, st1, rs1, sl1, rd, af1⟩ := q
  have hx0 : H1 (s1.heap.objs.size + 1) = none := I1.hok.fresh (Nat.le_succ _)
  have hd0 : H1 s1.heap.objs.size = none := I1.hok.fresh (Nat.le_refl _)
  have hne : s1.heap.objs.size ≠ s1.heap.objs.size + 1 := Nat.ne_of_lt (Nat.lt_succ_self _)
  obtain ⟨rsA, sA⟩ := rs1.more (o := .own (s1.heap.objs.size + 1)) hd0
  obtain ⟨rsB, sB⟩ := rsA.new (a := s1.heap.objs.size + 1) (c := .obj c []) (o := .ins (He.ga X.K c) s1.heap.objs.size []) (by rw [upd_ne (Ne.symm hne)]; exact hx0) (fun hz => ⟨hz, _, [], upd_same, rfl⟩)
  have hcell : (φ1 ++ [s1.heap.objs.size + 1])[st1.length]? = some (s1.heap.objs.size + 1) := by
    rw [← rs1.len, List.getElem?_append_right (Nat.le_refl _), Nat.sub_self]; rfl
  have hq : spF X.K F (.ref (s1.heap.objs.size + 1) :: vs) (upd (upd H1 s1.heap.objs.size (.own (s1.heap.objs.size + 1))) (s1.heap.objs.size + 1) (.ins (He.ga X.K c) s1.heap.objs.size [])) (fun v H2 => v = .non ∧ Q (.ref (s1.heap.objs.size + 1)) H2) (WE W σ) := by
    refine call_sp (ds := .cell st1.length :: ds) (η := η) rsB ((sl1.mono sA).mono sB) ⟨_, vs, rfl, ⟨_, hcell, rfl⟩, (rd.mono sA.hz sA.app).mono sB.hz sB.app⟩ ?_
    refine ((af1.later (sA.trans sB)).bind).mono fun b Z2 φ2 H2 t2 g2 rs2 u r2 => ?_
    obtain ⟨psi, rfl⟩ := t2.app
    have hc2 : ((φ1 ++ [s1.heap.objs.size + 1]) ++ psi)[st1.length]? = some (s1.heap.objs.size + 1) := by
      rw [List.getElem?_append_left (by rw [List.length_append, rs1.len]; simp)]; exact hcell
    unfold frzE at g2
    split at g2
    · rename_i eb
      rw [eb] at r2
      have hu : u = .non := by have r3 : Rep X.K Z2 .non u := r2; rw [Rep] at r3; exact r3
      split at g2
      · rename_i p3 st3 e3
        obtain ⟨Z3, f3, rs3, q3⟩ := frzO_ok rs2 e3 hc2
        exact ⟨hu, (g2.later f3.step).here rs3 q3⟩
      · exact g2.elim
    · exact g2.elim
  have I2 := Inv.made (C := He.ga X.K c) I1
  have r2 : Vals (V.ref (s1.heap.objs.size + 1) :: vs) (Value.ref (s1.heap.objs.size + 1) :: us) := .cons rfl r
  have hl : (Value.ref (s1.heap.objs.size + 1) :: us).length = ps.length := by
    have e := r2.length
    rw [F0.len _ _ _ _ hq] at e
    exact e.symm
  have bb := hb _ (Value.ref (s1.heap.objs.size + 1) :: us) I2.kIn (by rw [List.append_nil]; exact hl)
  rw [List.append_nil] at bb
  refine wpAny_call (make_map (f := f2) I1.kIn M0.makes M0.init (beq_iff_eq.mp M0.fn) (codeAny_mono (F0.run _ X.stack _ _ ⟨Value.ref (s1.heap.objs.size + 1) :: us, []⟩ (Value.ref (s1.heap.objs.size + 1) :: us) _ _ (WE W σ) ((hr.mono hk).make _ us [])
    (I2.env0.make _ us []) bb r2 hq) fun r s' hq' => ?_))
  cases r with
  | error e => exact passAt tk σ pins _ _ e s' I2 hq'
  | ok fl =>
    cases fl with
    | ret u =>
      obtain ⟨v, H', I3, rv, ev, q3⟩ := I2.after hq'
      subst ev
      exact ⟨rv, ⟨V.ref (s1.heap.objs.size + 1), H', I3, rfl, q3⟩⟩
    | next => exact False.elim hq'
    | brk => exact False.elim hq'
    | cont => exact False.elim hq'
end
def noX {α : Type} (r : R α) : R α := match r with
  | .ok a => .ok a
  | _ => .stuck
end M
end
section
set_option Elab.async false
set_option linter.all false
set_option maxRecDepth 100000
set_option maxHeartbeats 0
namespace M
open PySem L2
end M
end
section
set_option Elab.async false
set_option linter.all false
set_option maxRecDepth 100000
set_option maxHeartbeats 0
namespace M
open PySem L2 ClX
end M
end
section
set_option Elab.async false
set_option linter.all false
set_option maxRecDepth 100000
set_option maxHeartbeats 0
namespace M
open PySem L2
open Classical in
noncomputable def loopC (n : Nat) (zs : List P) (g : DG) (b : DS) : List P → Et → Sr → R (Fl × Et × Sr)
  | [], η, st => if st[n]? = some (.lst zs) then .ok (.nx, η, st) else .stuck
  | x :: xs, η, st => if st[n]? = some (.lst zs) then match g (.fz x) η st with
    | none => .stuck
    | some η1 => (b η1 st).bind fun r => match r.1 with
      | .nx => loopC n zs g b xs r.2.1 r.2.2
      | .ct => loopC n zs g b xs r.2.1 r.2.2
      | .bk => .ok (.nx, r.2.1, r.2.2)
      | .rt d => .ok (.rt d, r.2.1, r.2.2)
    else .stuck
section
variable {K : PySem.W.Frag} {W : WX} {g : DG} {b : DS} {D : Ends}
def LpC (K : PySem.W.Frag) (W : WX) (g : DG) (b : DS) (D : Ends) (n : Nat) (ad : Addr) (zs ys : List P) (σ : St) (H : Hp) : Prop :=
  ∃ Z φ η st, RS K Z φ st H ∧ Slots K Z φ η σ ∧ φ[n]? = some ad ∧ st[n]? = some (.lst zs) ∧ Af K W Z φ H (loopC n zs g b ys η st) (GS K D)
theorem loopC_at {n : Nat} {zs ys : List P} {η : Et} {st : Sr} {K : PySem.W.Frag} {W : WX} {Z H : Hp} {φ : List Addr} {G : (Fl × Et × Sr) → Hp → List Addr → Hp → Prop} (h : Af K W Z φ H (loopC n zs g b ys η st) G) : st[n]? = some (.lst zs) := by
  cases ys with
  | nil =>
    unfold loopC at h
    split at h
    · assumption
    · exact h.elim
  | cons x ys =>
    unfold loopC at h
    split at h
    · assumption
    · exact h.elim
theorem LpC.turn {n : Nat} {ad : Addr} {zs : List P} {p : P} {ys : List P} {σ : St} {H : Hp} (h : LpC K W g b D n ad zs (p :: ys) σ H) {v : V} (hv : ∀ Z φ st, RS K Z φ st H → φ[n]? = some ad → st[n]? = some (.lst zs) → Rep K Z p v) :
    tG K g v σ H (fun σ2 H2 => tS K W b { D with nx := LpC K W g b D n ad zs ys, ct := LpC K W g b D n ad zs ys, bk := D.nx } σ2 H2) := by
  obtain ⟨Z, φ, η, st, rs, sl, hn, hs, af⟩ := h
  unfold loopC at af
  rw [if_pos hs] at af
  split at af
  · exact af.elim
  · rename_i η1 e1
    refine ⟨Z, φ, η, st, .fz p, rs, sl, hv Z φ st rs hn hs, η1, e1, fun σ2 sl2 => ⟨Z, φ, η1, st, rs, sl2, af.bind.mono fun r Z' φ' H' t g' rs' => ?_⟩⟩
    obtain ⟨fl, η2, st2⟩ := r
    obtain ⟨psi, rfl⟩ := t.app
    have hn' : (φ ++ psi)[n]? = some ad := by
      rw [List.getElem?_append_left (List.getElem?_eq_some_iff.mp hn).1]; exact hn
    cases fl with
    | nx => exact fun σ' sl' => ⟨Z', _, η2, st2, rs', sl', hn', loopC_at g', g'⟩
    | ct => exact fun σ' sl' => ⟨Z', _, η2, st2, rs', sl', hn', loopC_at g', g'⟩
    | bk => exact g' _ _ _ .refl rs'
    | rt d => exact g' _ _ _ .refl rs'
theorem LpC.done {n : Nat} {ad : Addr} {zs : List P} {σ : St} {H : Hp} (h : LpC K W g b D n ad zs [] σ H) : D.nx σ H := by
  obtain ⟨Z, φ, η, st, rs, sl, hn, hs, af⟩ := h
  unfold loopC at af
  rw [if_pos hs] at af
  exact af _ _ _ .refl rs _ sl
theorem cell_sq {n : Nat} {ad : Addr} {zs : List P} {Z H : Hp} {φ : List Addr} {st : Sr} (rs : RS K Z φ st H) (hn : φ[n]? = some ad) (hs : st[n]? = some (.lst zs)) : ∃ vs, SqL K H ad vs ∧ Reps K Z zs vs := by
  obtain ⟨ct, hct, rc⟩ := rs.at_ hn
  rw [hs] at hct; cases hct
  obtain ⟨_, vs, h1, h2⟩ := rc
  exact ⟨vs, .inl (.inl h1), h2⟩
end
end M
end
section
set_option Elab.async false
set_option linter.all false
set_option maxRecDepth 100000
set_option maxHeartbeats 0
namespace M
open PySem L2 ClX
section
variable {P : Program} {w : World} {K : PySem.W.Frag} {mg : Str → Option Value} {base : Heap}
theorem newT_of {k j : Nat} {g c : Str} {ps : List Str} {F : DF} (o : Okd P w K mg base j (g, some "__init__") ps F) (hm : Mk K (He.ga K c) (He.ma K (He.ga K c) "__init__")) (he : He.ma K (He.ga K c) "__init__" = He.ma K (He.ga K g) "__init__") (h : j ≤ k := by decide) : NewT P w K mg base k ps c F := by
  obtain ⟨fd, h1, h2⟩ := o.ex
  refine ⟨_, fd, hm, ?_, h2⟩
  rw [he]
  exact fnOk_mono h1 h
end
end M
end
section
set_option Elab.async false
set_option linter.all false
set_option maxRecDepth 100000
set_option maxHeartbeats 0
namespace M
open PySem L2 ClX
open PySem.W (Looks findIn clsIn looks_clsIn looks_findIn)
end M
end
section
set_option Elab.async false
set_option linter.all false
set_option maxRecDepth 100000
set_option maxHeartbeats 0
namespace M
open PySem L2
def setAll : Et → List Nat → List P → Et
  | η, i :: ts, p :: ps => setAll (η.set i (some (.fz p))) ts ps
  | η, _, _ => η
def setAllV : St → List Nat → List V → St
  | σ, i :: ts, v :: vs => setAllV (σ.set i (some v)) ts vs
  | σ, _, _ => σ
def setT (ts : List Nat) (η : Et) : P → Option Et
  | .tup ps => if ps.length = ts.length then some (setAll η ts ps) else none
  | _ => none
def lcT (ts : List Nat) (t : DT) (fe : DE) (η : Et) : List P → List P → Sr → R (List P × Sr)
  | [], acc, st => .ok (acc, st)
  | x :: xs, acc, st => match setT ts η x with
    | none => .stuck
    | some η1 => (t η1 st).bind fun a => if a.1 = true then (fe η1 a.2).bind fun b => match toP b.2 b.1 with
      | some (p, st2) => if acc.length < szL then lcT ts t fe η xs (acc ++ [p]) st2 else .stuck
      | none => .stuck
    else lcT ts t fe η xs acc a.2
def dLcE (f : DA) (ts : List Nat) (t : DT) (fe : DE) : DE := fun η st => (f η st).bind fun a => match a.1 with
  | [d] => match toP a.2 d with
    | some (.lst xs, st') => lcZ (lcT ts t fe η (enumP 0 xs) [] st')
    | _ => .stuck
  | _ => .stuck
def gsN : List Nat → TGs
  | [] => gNil
  | i :: ts => gCons (gName i) (gsN ts)
theorem gsN_of {Q : St → Hp → Prop} {H : Hp} : ∀ {ts : List Nat} {vs : List V} {σ : St}, vs.length = ts.length → Q (setAllV σ ts vs) H → gsN ts vs σ H Q
  | [], [], σ, _, q => ⟨rfl, q⟩
  | i :: ts, v :: vs, σ, hl, q => ⟨v, vs, rfl, gsN_of (ts := ts) (by simpa using hl) q⟩
  | [], v :: vs, σ, hl, q => by cases hl
  | i :: ts, [], σ, hl, q => by cases hl
theorem gsN_mono {Q Q' : St → Hp → Prop} {H : Hp} (i : ∀ σ H, Q σ H → Q' σ H) : ∀ {ts : List Nat} {vs : List V} {σ : St}, gsN ts vs σ H Q → gsN ts vs σ H Q'
  | [], vs, σ, h => ⟨h.1, i _ _ h.2⟩
  | j :: ts, vs, σ, h => by
    obtain ⟨v, r, e, q⟩ := h
    exact ⟨v, r, e, gsN_mono i (ts := ts) q⟩
theorem tE_mono {K : PySem.W.Frag} {W : WX} {f : DE} {σ : St} {H : Hp} {Q Q' : VK} (h : tE K W f σ H Q) (i : ∀ v H, Q v H → Q' v H) : tE K W f σ H Q' := by
  obtain ⟨Z, φ, η, st, rs, sl, af⟩ := h
  exact ⟨Z, φ, η, st, rs, sl, af.mono fun r Z' φ' H' t g' rs' v rv => i _ _ (g' rs' v rv)⟩
theorem tT_mono {K : PySem.W.Frag} {W : WX} {f : DT} {σ : St} {H : Hp} {Q Q' : Bool → Hp → Prop} (h : tT K W f σ H Q) (i : ∀ v H, Q v H → Q' v H) : tT K W f σ H Q' := by
  obtain ⟨Z, φ, η, st, rs, sl, af⟩ := h
  exact ⟨Z, φ, η, st, rs, sl, af.mono fun r Z' φ' H' t g' rs' => i _ _ (g' rs')⟩
theorem wipe_get {σ : St} {j : Nat} : ∀ {ts : List Nat}, (wipe σ ts)[j]? = if j ∈ ts then (σ[j]?).map (fun _ => none) else σ[j]?
  | [] => by simp [wipe]
  | i :: ts => by
    unfold wipe
    rw [List.getElem?_set, wipe_get (ts := ts), wipe_length]
    by_cases h : i = j
    · subst h
      rw [if_pos rfl, if_pos List.mem_cons_self]
      by_cases hl : i < σ.length
      · rw [if_pos hl, List.getElem?_eq_getElem hl]; rfl
      · rw [if_neg hl, List.getElem?_eq_none (by omega)]; rfl
    · rw [if_neg h]
      by_cases hj : j ∈ ts
      · rw [if_pos hj, if_pos (List.mem_cons_of_mem _ hj)]
      · rw [if_neg hj, if_neg (fun e => by rcases List.mem_cons.mp e with e | e; exact h e.symm; exact hj e)]
theorem wipe_idem {σ : St} {ts : List Nat} : wipe (wipe σ ts) ts = wipe σ ts := by
  apply List.ext_getElem?
  intro j
  rw [wipe_get, wipe_get]
  split
  · rw [Option.map_map]; rfl
  · rfl
theorem wipe_set {σ : St} {i : Nat} {x : Option V} {ts : List Nat} (h : i ∈ ts) : wipe (σ.set i x) ts = wipe σ ts := by
  apply List.ext_getElem?
  intro j
  rw [wipe_get, wipe_get]
  split
  · rename_i hj
    rw [List.getElem?_set]
    split
    · rename_i e; subst e
      split
      · rename_i hl; rw [List.getElem?_eq_getElem hl]; try rfl
      · rename_i hl; rw [List.getElem?_eq_none (by omega)]; try rfl
    · rfl
  · rename_i hj
    rw [List.getElem?_set_ne (by rintro rfl; exact hj h)]
theorem wipe_all {us : List Nat} : ∀ {ts : List Nat} {vs : List V} {σ : St}, (∀ i ∈ ts, i ∈ us) → wipe (setAllV σ ts vs) us = wipe σ us
  | [], vs, σ, _ => by cases vs <;> rfl
  | i :: ts, [], σ, _ => rfl
  | i :: ts, v :: vs, σ, h => by
    show wipe (setAllV (σ.set i (some v)) ts vs) us = _
    rw [wipe_all (ts := ts) fun j hj => h j (List.mem_cons_of_mem _ hj), wipe_set (h i List.mem_cons_self)]
section
variable {K : PySem.W.Frag} {Z H : Hp} {φ : List Addr}
/-- the slots but for some -/
structure SlotsX (K : PySem.W.Frag) (Z : Hp) (φ : List Addr) (us : List Nat) (η : Et) (σ : St) : Prop where
  len : η.length = σ.length
  at_ : ∀ (i : Nat) d, i ∉ us → η[i]? = some (some d) → ∃ v, σ[i]? = some (some v) ∧ RepD K Z φ d v
theorem Slots.wiped {η : Et} {σ : St} {us : List Nat} (h : Slots K Z φ η σ) : SlotsX K Z φ us η (wipe σ us) := ⟨by rw [wipe_length]; exact h.len, fun i d hi e => by
  obtain ⟨v, h1, h2⟩ := h.at_ i d e
  exact ⟨v, by rw [wipe_get, if_neg hi]; exact h1, h2⟩⟩
theorem SlotsX.set {i : Nat} {us : List Nat} {η : Et} {σ : St} {d : D} {v : V} (h : SlotsX K Z φ (i :: us) η σ) (r : RepD K Z φ d v) : SlotsX K Z φ us (η.set i (some d)) (σ.set i (some v)) := by
  refine ⟨by rw [List.length_set, List.length_set]; exact h.len, fun j e hj he => ?_⟩
  by_cases hij : i = j
  · subst hij
    by_cases hl : i < η.length
    · rw [List.getElem?_set_self hl] at he
      cases he
      exact ⟨v, by rw [List.getElem?_set_self (by rw [← h.len]; exact hl)], r⟩
    · rw [List.getElem?_eq_none (by simpa using hl)] at he; cases he
  · rw [List.getElem?_set_ne hij] at he
    obtain ⟨w, h1, h2⟩ := h.at_ j e (fun hm => by rcases List.mem_cons.mp hm with hm | hm; exact hij hm.symm; exact hj hm) he
    exact ⟨w, by rw [List.getElem?_set_ne hij]; exact h1, h2⟩
theorem SlotsX.all : ∀ {ts : List Nat} {ps : List P} {vs : List V} {η : Et} {σ : St}, SlotsX K Z φ ts η σ → ps.length = ts.length → Reps K Z ps vs → Slots K Z φ (setAll η ts ps) (setAllV σ ts vs)
  | [], ps, vs, η, σ, h, hl, r => by
    cases ps with
    | nil => rw [Reps] at r; subst r; exact ⟨h.len, fun i d e => h.at_ i d (by simp) e⟩
    | cons p ps => cases hl
  | i :: ts, [], vs, η, σ, h, hl, r => by cases hl
  | i :: ts, p :: ps, vs, η, σ, h, hl, r => by
    rw [Reps] at r
    obtain ⟨v, ws, rfl, r1, r2⟩ := r
    have h1 : Slots K Z φ (setAll (η.set i (some (.fz p))) ts ps) (setAllV (σ.set i (some v)) ts ws) := SlotsX.all (h.set (d := .fz p) r1) (by simpa using hl) r2
    exact h1
end
section
def LcK (K : PySem.W.Frag) (W : WX) (ts : List Nat) (t : DT) (fe : DE) (η : Et) (Q : VK) (σ : St) (Z0 : Hp) (φ0 : List Addr) (H0 : Hp) (p : Addr) (Ex : Hp → Prop) (ys : List P) (H : Hp) : Prop :=
  ∃ Z φ st acc, RS K Z φ st H ∧ Slots K Z φ η σ ∧ Ex Z ∧ Mk1 K Z φ H p acc ∧ Step Z0 φ0 H0 Z φ H ∧ Af K W Z0 φ0 H0 (lcZ (lcT ts t fe η ys acc st)) (GE K Q)
variable {K : PySem.W.Frag} {W : WX} {ts : List Nat} {t : DT} {fe : DE} {η : Et} {Q : VK} {σ : St} {Z0 H0 : Hp} {φ0 : List Addr} {p : Addr} {Ex : Hp → Prop}
theorem LcK.done {H : Hp} (h0 : H0 p = none) (h : LcK K W ts t fe η Q σ Z0 φ0 H0 p Ex [] H) : Q (.ref p) H := by
  obtain ⟨Z, φ, st, acc, rs, sl, ex, m, s, af⟩ := h
  exact LcJ.done (i := 0) (t := t) (fe := fe) (η := η) (Ex := Ex) h0 ⟨Z, φ, st, acc, rs, sl, ex, m, s, af⟩
theorem LcK.turn (h0 : H0 p = none) (hm : ∀ Z Z', Same Z Z' → Ex Z → Ex Z') {x : P} {ys : List P} {H : Hp} {v : V} (h : LcK K W ts t fe η Q σ Z0 φ0 H0 p Ex (x :: ys) H) (hv : ∀ Z, Same Z H → Ex Z → Rep K Z x v) :
    gTup K ts.length (gsN ts) v (wipe σ ts) H fun σ2 H2 => wipe σ2 ts = wipe σ ts ∧ tT K W0 t σ2 H2 (fun b H3 => if b = true then tE K W0 fe σ2 H3 (fun y H4 => ∃ acc, H4 p = some (.lst acc) ∧ acc.length < sizeLine ∧ LcK K W ts t fe η Q σ Z0 φ0 H0 p Ex ys (upd H4 p (.lst (acc ++ [y])))) else LcK K W ts t fe η Q σ Z0 φ0 H0 p Ex ys H3) := by
  obtain ⟨Z, φ, st, acc, rs, sl, ex, m, s, af⟩ := h
  obtain ⟨⟨acc', st'⟩, he⟩ := lcZ_some af
  have he0 := he
  unfold lcT at he
  cases e0 : setT ts η x with
  | none => rw [e0] at he; cases he
  | some η1 =>
  rw [e0] at he
  unfold setT at e0
  split at e0
  rotate_left
  · cases e0
  rename_i ps
  split at e0
  rotate_left
  · cases e0
  rename_i hpl
  cases e0
  have rx := hv Z rs.same ex
  rw [Rep] at rx
  obtain ⟨ad, vs, rfl, hsq, hrs⟩ := rx
  have hvl : vs.length = ts.length := by rw [← hrs.length]; exact hpl
  refine ⟨ad, vs, rfl, same_sqT rs.same hsq, hvl, gsN_of hvl ⟨by rw [wipe_all (fun _ h => h), wipe_idem], ?_⟩⟩
  have slv0 : Slots K Z φ (setAll η ts ps) (setAllV (wipe σ ts) ts vs) := (sl.wiped (us := ts)).all hpl hrs
  dsimp only at he
  generalize setAll η ts ps = η1 at he slv0
  generalize setAllV (wipe σ ts) ts vs = σ1 at slv0
  refine ⟨Z, φ, _, st, rs, slv0, ?_⟩
  cases e1 : t η1 st with
  | exc => rw [e1] at he; cases he
  | stuck => rw [e1] at he; cases he
  | ok a =>
    rw [e1] at he
    intro Z1 φ1 H1 s1 rs1
    have he1 : (if a.1 = true then (fe η1 a.2).bind fun b => match toP b.2 b.1 with
      | some (p, st2) => if acc.length < szL then lcT ts t fe η ys (acc ++ [p]) st2 else .stuck
      | none => .stuck
    else lcT ts t fe η ys acc a.2) = .ok (acc', st') := he
    have m1 := m.step s1
    by_cases ha : a.1 = true
    · rw [if_pos ha] at he1 ⊢
      refine ⟨Z1, φ1, _, a.2, rs1, slv0.mono s1, ?_⟩
      cases e2 : fe η1 a.2 with
      | exc => rw [e2] at he1; cases he1
      | stuck => rw [e2] at he1; cases he1
      | ok b =>
        rw [e2] at he1
        intro Z2 φ2 H2 s2 rs2 y ry
        have he2 : (match toP b.2 b.1 with
          | some (p, st2) => if acc.length < szL then lcT ts t fe η ys (acc ++ [p]) st2 else .stuck
          | none => .stuck) = .ok (acc', st') := he1
        have m2 := m1.step s2
        obtain ⟨ws, h1, h2⟩ := m2.at_
        cases e3 : toP b.2 b.1 with
        | none => rw [e3] at he2; cases he2
        | some pr =>
          obtain ⟨q, st3⟩ := pr
          rw [e3] at he2
          dsimp only at he2
          split at he2
          · rename_i hz
            obtain ⟨Z3, f3, rs3, r3⟩ := toP_ok rs2 e3 ry
            have m3 := m2.step f3.step
            obtain ⟨rs4, m4⟩ := m3.push rs3 h1 r3
            have s3 := ((s.trans s1).trans s2).trans f3.step
            refine ⟨ws, h1, by rw [← h2.length, ← szL_eq]; exact hz, Z3, φ2, st3, acc ++ [q], rs4, ((sl.mono s1).mono s2).mono f3.step, hm _ _ f3.hz (hm _ _ s2.hz (hm _ _ s1.hz ex)), m4, ?_, ?_⟩
            · refine ⟨s3.hz, s3.pre, fun b o hb hn ht => ?_, s3.zn, fun b hb => ?_, fun b q u hb => by rw [upd_ne (by rintro rfl; rw [h0] at hb; cases hb)]; exact s3.lk b q u hb⟩
              · rw [upd_ne]
                · exact s3.fr b o hb hn ht
                · rintro rfl
                  rw [h0] at hb; cases hb
              · by_cases q : b = p
                · subst q; exact .of h0
                · exact s3.up b fun o ho => hb o (by rw [upd_ne q]; exact ho)
            · rw [he2]; rw [he0] at af; exact af
          · cases he2
    · rw [if_neg ha] at he1 ⊢
      exact ⟨Z1, φ1, a.2, acc, rs1, sl.mono s1, hm _ _ s1.hz ex, m1, s.trans s1, by rw [he1]; rw [he0] at af; exact af⟩
end
section
variable {X : Cx} {W : WX} {elt iter a : Expr} {scope : Scope} {ts : List Nat} {tpos pos p2 : Pos} {ifs : List Expr} {f fe : DE} {fs : DA} {t : DT}
theorem lcK_read {D : Addr} {σ : St} {η : Et} {H Z : Hp} {φ : List Addr} {st : Sr} {xs : List P} {Q : VK} {Ex : Hp → Prop} (hD : H D = none) (rs : RS X.K Z φ st H) (sl : Slots X.K Z φ η σ) (ex : Ex Z) (af : Af X.K W Z φ H (lcZ (lcT ts t fe η xs [] st)) (GE X.K Q)) :
    LcK X.K W ts t fe η Q σ Z φ H D Ex xs (upd H D (.lst [])) := by
  have hz : Z D = none := rs.same.free hD
  have na : D ∉ φ := fun hm => by obtain ⟨u, hu⟩ := rs.some_ hm; rw [hD] at hu; cases hu
  refine ⟨Z, φ, st, [], ⟨fun b u hb => ?_, rs.len, rs.nd, fun j b c hj hc => ?_, tabs_upd rs.tb (fun u hu => by rw [hD] at hu; cases hu), rs.zd⟩, sl, ex, ⟨na, hz, [], upd_same, .nil⟩, ⟨Same.refl _, ⟨[], by simp, by simp⟩, fun b u hb hn _ => ?_, fun b hb => .inl hb, fun b hb => ?_, fun b q u hb => by rw [upd_ne (by rintro rfl; rw [hD] at hb; cases hb)]; exact hb⟩, af⟩
  · rw [upd_ne (by rintro rfl; rw [hz] at hb; cases hb)]; exact rs.same b u hb
  · have nb : b ≠ D := by rintro rfl; exact na (List.mem_of_getElem? hj)
    exact (rs.cells j b c hj hc).keep (Same.refl _) ⟨[], by simp⟩ (fun q => (rs.cells j b c hj hc).free q) fun u hu _ => by rw [upd_ne nb]; exact hu
  · rw [upd_ne (by rintro rfl; rw [hD] at hb; cases hb)]; exact hb
  · by_cases q : b = D
    · subst q; exact .of hD
    · exact fun o ho => hb o (by rw [upd_ne q]; exact ho)
theorem lcE_to {σ : St} {H : Hp} {Q : VK} (hh : tE X.K W (dLcE fs ts t fe) σ H Q) :
    tLc (iEnum X.K (tA X.K W fs)) (gTup X.K ts.length (gsN ts)) (tT X.K W0 t) (tE X.K W0 fe) ts σ H Q := by
  obtain ⟨Z, φ, η, st, rs, sl, af⟩ := hh
  refine ⟨Z, φ, η, st, rs, sl, af.bind.mono fun a Z' φ' H' t' g' rs' vs r => ?_⟩
  split at g'
  rotate_left
  · exact g'.elim
  rename_i d ed
  rw [ed] at r
  obtain ⟨v, rfl, rd⟩ := r.one
  split at g'
  rotate_left
  · exact g'.elim
  rename_i xs st' e1
  obtain ⟨Z2, f2, rs2, q2⟩ := toP_ok rs' e1 rd
  rw [Rep] at q2
  obtain ⟨a', ws, rfl, h2', h3⟩ := q2
  have h2 : SqL X.K Z2 a' ws := SqL.of h2'
  have af2 := g'.later f2.step
  have sl2 := (sl.mono t').mono f2.step
  refine ⟨a', ws, rfl, rs2.same.seq h2, fun D hD => ?_⟩
  refine ⟨fun i m H => m = ws.length - i ∧ i ≤ ws.length ∧ LcK X.K W ts t fe η Q σ Z2 φ' H' D (fun Z => SqL X.K Z a' ws ∧ Reps X.K Z xs ws) ((enumP 0 xs).drop i) H, ⟨ws.length, by simp, Nat.zero_le _, by rw [List.drop_zero]; exact lcK_read hD rs2 sl2 ⟨h2, h3⟩ af2⟩, ?_⟩
  rintro i m H2 ⟨rfl, hi, hh⟩
  obtain ⟨Z3, φ3, st3, acc3, rs3, sl3, ⟨e3, e4⟩, m3, s3, af3⟩ := id hh
  have sq := rs3.same.seq e3
  by_cases hlt : i < ws.length
  · have hl : i < xs.length := by rw [h3.length]; exact hlt
    refine .inr ⟨⟨ws, ws[i], sq, by simp [hlt]⟩, fun H3 => LcK X.K W ts t fe η Q σ Z2 φ' H' D (fun Z => SqL X.K Z a' ws ∧ Reps X.K Z xs ws) ((enumP 0 xs).drop (i + 1)) H3, fun H3 q => ⟨ws.length - (i + 1), by omega, rfl, hlt, q⟩, fun x H3 y => ?_⟩
    obtain ⟨T, y0, rfl, hT, rfl, y1⟩ := y
    have hy := y1 ws sq
    rw [enumP_drop, drop_cons (List.getElem?_eq_getElem hl)] at hh
    have ed : enumP (0 + i + 1) (xs.drop (i + 1)) = (enumP 0 xs).drop (i + 1) := by rw [enumP_drop]; congr 1
    have hh2 : LcK X.K W ts t fe η Q σ Z2 φ' H' D (fun Z => (SqL X.K Z a' ws ∧ Reps X.K Z xs ws) ∧ Rep X.K Z (.tup [.int ((0 + i : Nat) : Int), xs[i]]) (.ref T)) (.tup [.int ((0 + i : Nat) : Int), xs[i]] :: enumP (0 + i + 1) (xs.drop (i + 1))) (upd H2 T (.tup [.int (i : Nat), y0])) := by
      obtain ⟨Z4, φ4, st4, acc4, rs4, sl4, ⟨e5, e6⟩, m4, s4, af4⟩ := hh
      obtain ⟨rs5, s5⟩ := rs4.newZ (o := .tup [.int (i : Nat), y0]) hT
      refine ⟨_, φ4, st4, acc4, rs5, sl4.mono s5, ⟨⟨s5.hz.seq e5, e6.mono s5.hz⟩, ?_⟩, m4.step s5, s4.trans s5, af4⟩
      rw [Rep]
      refine ⟨T, _, rfl, .inl (.inl upd_same), .cons (by rw [Rep]; simp) (.one ?_)⟩
      obtain ⟨v, hv, rv⟩ := e6.get (List.getElem?_eq_getElem hl)
      rw [hy] at hv; cases hv
      exact rv.mono s5.hz
    rw [ed] at hh2
    have low : ∀ H0, LcK X.K W ts t fe η Q σ Z2 φ' H' D (fun Z => (SqL X.K Z a' ws ∧ Reps X.K Z xs ws) ∧ Rep X.K Z (.tup [.int ((0 + i : Nat) : Int), xs[i]]) (.ref T)) ((enumP 0 xs).drop (i + 1)) H0 → LcK X.K W ts t fe η Q σ Z2 φ' H' D (fun Z => SqL X.K Z a' ws ∧ Reps X.K Z xs ws) ((enumP 0 xs).drop (i + 1)) H0 := fun H0 ⟨Z, φ, st, acc, r1, r2, r3, r4, r5, r6⟩ => ⟨Z, φ, st, acc, r1, r2, r3.1, r4, r5, r6⟩
    obtain ⟨ad, vs, e7, e8, e9, e10⟩ := hh2.turn hD (fun Z Z' s ⟨⟨e1, e2⟩, e3⟩ => ⟨⟨s.seq e1, e2.mono s⟩, e3.mono s⟩) (v := .ref T) fun Z _ ⟨_, e3⟩ => e3
    refine ⟨ad, vs, e7, e8, e9, gsN_mono (fun σ2 H4 ⟨q1, q2⟩ => ⟨q1, tT_mono q2 fun b H5 q3 => ?_⟩) e10⟩
    split at q3
    · rename_i hb
      rw [if_pos hb]
      exact tE_mono q3 fun y H6 ⟨acc, z1, z2, z3⟩ => ⟨acc, z1, z2, low _ z3⟩
    · rename_i hb
      rw [if_neg hb]
      exact low _ q3
  · have e : i = ws.length := by omega
    subst e
    rw [enumP_drop, ← h3.length, List.drop_length] at hh
    exact .inl ⟨⟨ws, sq, Nat.le_refl _⟩, hh.done hD⟩
end
end M
end
section
set_option Elab.async false
set_option linter.all false
set_option maxRecDepth 100000
set_option maxHeartbeats 0
namespace M
open PySem L2
def IsTrip (h : Heap) (v : Value) (x y : Int) : Prop := ∃ a o t u z n, v = .ref a ∧ h.get? a = some o ∧ o.cls = .type "tuple" ∧ o.data = .seq #[.int x t, .int y u, z] n
theorem IsTrip.keeps {h h' : Heap} {v : Value} {x y : Int} (p : IsTrip h v x y) (k : ∀ b o, h.get? b = some o → o.cls = .type "tuple" → h'.get? b = some o) : IsTrip h' v x y := by
  obtain ⟨a, o, t, u, z, n, e, ho, hc, hd⟩ := p
  exact ⟨a, o, t, u, z, n, e, k _ _ ho hc, hc, hd⟩
end M
end
section
set_option Elab.async false
set_option linter.all false
set_option maxRecDepth 100000
set_option maxHeartbeats 0
namespace M
open PySem L2
theorem reps_set {K : PySem.W.Frag} {Z : Hp} {ps : List P} {vs : List V} {q : P} {v : V} (h : Reps K Z ps vs) (hq : Rep K Z q v) (j : Nat) : Reps K Z (ps.set j q) (vs.set j v) := by
  refine Reps.of_get (by simp [h.length]) fun i p w h1 h2 => ?_
  by_cases e : j = i
  · subst e
    by_cases hl : j < ps.length
    · rw [List.getElem?_set_self hl] at h1
      rw [List.getElem?_set_self (by rw [← h.length]; exact hl)] at h2
      cases h1; cases h2; exact hq
    · rw [List.getElem?_eq_none (by simpa using hl)] at h1; cases h1
  · rw [List.getElem?_set_ne e] at h1 h2
    obtain ⟨u, h3, h4⟩ := h.get h1
    rw [h2] at h3; cases h3; exact h4
def dLPut (fv fo fi : DE) : DS := fun η st => (fv η st).bind fun v => (fo η v.2).bind fun o => (fi η o.2).bind fun i => match o.1, i.1 with
  | .cell n, .fz (.int k) => (match toP i.2 v.1 with
    | some (q, st') => (match st'[n]? with
      | some (.lst xs) => (match ixN xs.length k with
        | some j => .ok (.nx, η, st'.set n (.lst (xs.set j q)))
        | none => .stuck)
      | _ => .stuck)
    | none => .stuck)
  | _, _ => .stuck
section
variable {X : Cx} {W : WX} {e o i value : Expr} {pos pos' : Pos} {f g h : DE}
theorem ds_lput (hv : PE X value (tE X.K W f)) (ho : PE X o (tE X.K W g)) (hi : PE X i (tE X.K W h)) (hs : swapsWithSole [.Subscript o i pos'] value pos.line X.env = pure false := by rfl) (hw : swappedStores [.Subscript o i pos'] value X.env = pure none := by rfl)
    (h1 : (assignEach [.Subscript o i pos'] X.env).map (·.2) = [assign (.Subscript o i pos') X.env] := by rfl)
    (hsb : ∀ v, assign (.Subscript o i pos') X.env v = (do
      let ov ← holding [v] (eval o X.env)
      let iv ← holding [v, ov] (eval i X.env)
      standAt pos'
      holding [v, ov, iv] (setItem ov iv v)
      release [v, ov, iv] []) := by intro _; rfl) : PS X (.Assign [.Subscript o i pos'] value pos) (tS X.K W (dLPut f g h)) := by
  refine (ps_asg hv (pg_sub ho hi set_list hsb) hs hw h1).to fun E σ H hh => ?_
  obtain ⟨Z, φ, η, st, rs, sl, af⟩ := hh
  refine ⟨Z, φ, η, st, rs, sl, af.bind.mono fun a Z' φ' H' t g' rs' v r => ?_⟩
  refine ⟨Z', φ', η, a.2, rs', sl.mono t, g'.bind.mono fun b Z2 φ2 H2 t2 g2 rs2 u r2 => ?_⟩
  refine ⟨Z2, φ2, η, b.2, rs2, (sl.mono t).mono t2, g2.bind.mono fun c Z3 φ3 H3 t3 g3 rs3 w r3 => ?_⟩
  have rv := (r.mono t2.hz t2.app).mono t3.hz t3.app
  have ro := r2.mono t3.hz t3.app
  split at g3
  rotate_left
  · exact g3.elim
  rename_i n k en ek
  rw [en] at ro
  rw [ek] at r3
  split at g3
  rotate_left
  · exact g3.elim
  rename_i q st' e3
  obtain ⟨Z4, f4, rs4, q4⟩ := toP_ok rs3 e3 rv
  have g4 := g3.later f4.step
  obtain ⟨ad, had, rfl⟩ := ro
  split at g4
  rotate_left
  · exact g4.elim
  rename_i xs e5
  split at g4
  rotate_left
  · exact g4.elim
  rename_i j ej
  obtain ⟨ct, hct, rc⟩ := rs4.at_ had
  rw [e5] at hct; cases hct
  obtain ⟨hzn, vs, hH, hR⟩ := rc
  obtain rfl := fz_int r3
  refine ⟨ad, vs, k, j, rfl, rfl, hH, by rw [← hR.length]; exact ej, ?_⟩
  obtain ⟨rs5, t5⟩ := rs4.write (o := .lst (vs.set j v)) (c := .lst (xs.set j q)) had hzn ⟨hzn, _, upd_same, reps_set hR q4 j⟩ (fun _ _ z => by rw [hH] at z; cases z)
  exact g4 _ _ _ t5 rs5 σ (((((sl.mono t).mono t2).mono t3).mono f4.step).mono t5)
end
section
variable {X : Cx} {W : WX} {elt iter a : Expr} {es : List Expr} {scope : Scope} {own : List (Str × Nat)} {kk : Nat} {tpos pos pos' p : Pos} {ifs : List Expr} {f fe : DE} {fs : DA} {t : DT}
theorem de_lcE (hc : X.calm = true) (hN : X.N.Nodup) (hgl : Gl X "enumerate") (hm : X.mg "enumerate" = none) (ha : PA X [a] (tA X.K W fs)) (ok : BlkOk X.N X.env.scope scope own)
    (hg : ∀ (s : Shared) (H : Hp) (C : Addr) (cl : List (Str × Addr)) (fp : List Addr), PG (X.blk s H scope (compEnvC scope cl C X.env) fp) (.Tuple es kk tpos) (gTup X.K (own.map (·.2)).length (gsN (own.map (·.2))))) (ht : ∀ (s : Shared) (H : Hp) (C : Addr) (cl : List (Str × Addr)) (fp : List Addr), PTs (X.blk s H scope (compEnvC scope cl C X.env) fp) ifs (tT X.K W0 t))
    (he : ∀ (s : Shared) (H : Hp) (C : Addr) (cl : List (Str × Addr)) (fp : List Addr), PE (X.blk s H scope (compEnvC scope cl C X.env) fp) elt (tE X.K W0 fe)) (hss : starEach [a] X.env = [(false, eval a X.env)] := by rfl) (hs : ∀ x, foldedSetIterable (.Call (.Name "enumerate" p) [a] [] pos) X.env x = pure x := by intro _; rfl) :
    PE X (.ListComp elt [⟨.Tuple es kk tpos, .Call (.Name "enumerate" p) [a] [] pos, ifs, 0⟩] scope pos') (tE X.K W (dLcE fs (own.map (·.2)) t fe)) := (pe_lc (own := own) hc hN (pi_enum hgl hm ha hss) ok hg ht he hs).to fun σ H Q hh => lcE_to hh
end
end M
end
section
set_option Elab.async false
set_option linter.all false
set_option maxRecDepth 100000
set_option maxHeartbeats 0
namespace M
open PySem PySem.Spec PyProof.Rows L2
section
variable {X : Cx} {W : WX} {C : Addr} {bmB : List Value} {B newId initId : String}
/-- X(), X an own exception class without own __init__ -/
theorem pmk_own0 {x : Str} {p pos : Pos} (F : ExcBaseFacts B newId initId bmB) (q : PySem.W.excIn X.K C bmB newId = true) (gC : X.mg x = some (.ref C)) (kC : PySem.W.keepIn X.K (.ref C) = true) (r : Raises X (.ref C)) (hg : Gl X x)
    (hdb : (x == ("__debug__" : Str)) = false := by decide) : PMk X (.Call (.Name x p) [] [] pos) (fun _ H Q => Q (.ref C) none H) := by
  intro pins s σ H Q I h
  refine wpAny_Call_Name_kw (ld_glob I hg gC ?_ hdb)
  refine PySem.W.callWith_K0 (first := []) I.kIn kC ?_
  show wpAny _ _ (call (.ref C) []) _ _ _
  obtain ⟨bm, N, nm, qn, bs, hdct, sn, sub, ab, col, dd, k0, k1, k2, k3, k5, mN, hC, hN, hni, T⟩ := exc_obj I.kIn q
  refine wpAny_call_exc_subT F T hC hN hni (fun h' e hm => ?_) (by show 0 ≤ sizeLine; exact Nat.zero_le _)
  exact mk_of I hm r h (I.hok.gone hm.new)
theorem ds_raise0 {x : Str} {p pos pos2 : Pos} (hc : X.calm = true) (F : (He.Fa.exc x).ok X.K = true) (gC : X.mg x = some (.ref (He.ga X.K x))) (tk : Takes X W) (hg : Gl X x) (hdb : (x == ("__debug__" : Str)) = false := by decide) :
    PS X (.Raise (some (.Call (.Name x p) [] [] pos)) none pos2) (tS X.K W (dRaiseT x)) := by
  obtain ⟨c1, c2, c3, c4⟩ := He.exc_ok F
  refine (ps_raise hc tk (pmk_own0 PySem.F.excBase_ValueError c1 gC c2 (raises_own c3 c4) hg hdb)).to fun E σ H h => ?_
  obtain ⟨Z, φ, η, st, rs, sl, af⟩ := h
  exact af σ H Z φ .refl rs sl
end
end M
namespace M
open PySem L2
end M
end
section
set_option Elab.async false
set_option linter.all false
set_option maxRecDepth 100000
set_option maxHeartbeats 0
namespace M
open PySem L2
theorem fz_str {K : PySem.W.Frag} {Z : Hp} {φ : List Addr} {i : Str} {v : V} (h : RepD K Z φ (.fz (.str i)) v) : v = .str i := by
  have h : Rep K Z (.str i) v := h
  rw [Rep] at h
  exact h
def charsP (x : Str) : List P := x.cps.toList.map fun c => .str ⟨#[c]⟩
section
variable {X : Cx} {W : WX}
variable {i : Nat} {t : DT} {fe f : DE}
theorem charsP_at {x : Str} {j : Nat} {c : Nat} (h : x.cps[j]? = some c) : (charsP x)[j]? = some (.str ⟨#[c]⟩) := by
  unfold charsP
  rw [List.getElem?_map, Array.getElem?_toList, h]; rfl
theorem charsP_len (x : Str) : (charsP x).length = x.cps.size := by unfold charsP; simp
variable {iter elt : Expr} {ifs : List Expr} {scope : Scope} {tpos pos : Pos} {x : Str}
end
end M
end
section
set_option Elab.async false
set_option linter.all false
set_option maxRecDepth 100000
set_option maxHeartbeats 0
namespace M
open PySem L2 ClX
open PySem.W (Looks findIn clsIn looks_clsIn looks_findIn)
section
variable {prog : Program} {w : World} {A : Around} {E : Value → Shared → Prop} {s : Shared} {K : PySem.W.Frag} {x C f : Addr} {ox : Obj} {od : Option Obj} {Q : Value → Shared → Prop}
theorem len_own (X : K.In s.heap) (I : PySem.W.InstAt s.heap x ox C od) (hs : findIn K (.ref C) "__len__" = some (some (.ref f))) (hf : PySem.W.typeIn K (.ref f) = some (.type "function"))
    (h : wpAny (model prog w) A.in1 (call (.ref f) [.ref x]) (fun r s' => ∃ (n : Int) (t : Tok), r = .int n t ∧ 0 ≤ n ∧ n < 2 ^ 63 ∧ ∀ t', Q (.int n t') { s' with toks := s'.toks + 1 }) (fun _ _ => False) s) : wpAny (model prog w) A (call (.builtin "len") [.ref x]) Q E s := by
  refine Calls.call_function_entry kind_len plain_len entry_len (args_len1 _) ?_
  unfold Builtin.«len»
  refine wpAny_bind (m := oneArg "len" _) (wpAny_pure ?_)
  refine wpAny_bind (m := callSpecial? (.ref x) (PySem.Str.ofString "__len__")) (PySem.W.special_fn X I hs hf (wpAny_mono h (fun r s' hr => ?_) fun _ _ e => e.elim))
  obtain ⟨n, t, rfl, h0, h1, q⟩ := hr
  dsimp only
  refine wpAny_bind (wpAny_holding (wpAny_pure ?_))
  refine wpAny_bind (wpAny_letGo ?_)
  show wpAny _ _ (if n < 0 then _ else _) _ _ _
  rw [if_neg (by omega)]
  show wpAny _ _ (if n ≥ 2 ^ 63 then _ else _) _ _ _
  rw [if_neg (by omega)]
  exact wpAny_bind (wpAny_mkInt (wpAny_pure ⟨_, rfl, q _⟩))
end
def callZ (F : DF) (ds : List D) (st : Sr) : R (D × Sr) := noX (callF F ds [] st)
def clsF (tab : List (Str × DF)) (st : Sr) (d : D) : Option DF := (clsOf st d).bind fun c => look1 c tab
def lenX (tab : List (Str × DF)) (ds : List D) (st : Sr) : R (D × Sr) := match ds with
  | [d] => (match clsF tab st d with
    | some F => (callZ F [d] st).bind fun r => match r.1 with
      | .fz (.int n) => if 0 ≤ n ∧ n < 2 ^ 62 then .ok (.fz (.int n), r.2) else .stuck
      | _ => .stuck
    | none => lenO ds st)
  | _ => .stuck
theorem callF_eta {F : DF} {ds : List D} {st : Sr} {a : D × Sr} (h : callF F ds [] st = .ok a) (η : Et) : callF F ds η st = .ok a := by
  unfold callF callI at h ⊢
  by_cases h1 : (reach st (cellsA ds)).Nodup
  · rw [if_pos h1] at h ⊢
    cases e1 : renA (reach st (cellsA ds)) ds with
    | none => rw [e1] at h; cases h
    | some ds1 =>
      cases e2 : subS (reach st (cellsA ds)) st with
      | none => rw [e1, e2] at h; cases h
      | some st1 =>
        rw [e1, e2] at h
        dsimp only at h ⊢
        cases e3 : F ds1 st1 with
        | ok r =>
          obtain ⟨d, st2⟩ := r
          rw [e3] at h
          exact h
        | exc c fs e s =>
          rw [e3] at h
          dsimp only at h
          by_cases h4 : (reach st (cellsA ds)).length ≤ s.length
          · rw [if_pos h4] at h; cases h
          · rw [if_neg h4] at h; cases h
        | stuck => rw [e3] at h; cases h
  · rw [if_neg h1] at h; cases h
section
variable {X : Cx} {W : WX} {k j : Nat} {ps : List Str} {tab : List (Str × DF)}
/-- a def of one's own that is called below the running body -/
theorem own_callN {A : Around} {E' : Value → Shared → Prop} {pins : List (Addr × Obj)} {s : Shared} {σ : St} {H : Hp} {Q : VK} {F : DF} {f2 : Addr} {fd : FuncData} {us : List Value} {vs : List V} {ds : List D} {Z : Hp} {φ : List Addr} {st : Sr} {r : D × Sr} (hr : Room k A) (Fo : FnOk X.prog X.w X.K X.mg X.base (L2.CX X.prog X.w) k f2 fd ps (spF X.K F)) (hb : Binds X.K fd ps [])
    (I : Inv X pins σ H s) (e0 : Env0 X.prog X.w X.K X.mg X.base A X.stack s H) (rs : RS X.K Z φ st H) (rd : RepDs X.K Z φ ds vs) (ru : Vals vs us) (er : callF F ds [] st = .ok r) (q : ∀ Z' φ' H', Step Z φ H Z' φ' H' → RS X.K Z' φ' r.2 H' → ∀ v, RepD X.K Z' φ' r.1 v → Q v H') : wpAny (model X.prog X.w) A (call (.ref f2) us) (EP X pins σ Q) E' s := by
  have sl : Slots X.K Z φ (List.replicate σ.length none) σ := ⟨List.length_replicate, fun i d h => by
    have := List.mem_of_getElem? h
    rw [List.mem_replicate] at this
    exact absurd this.2 (by simp)⟩
  have af : Af X.K (fun _ _ _ _ => False) Z φ H (callF F ds (List.replicate σ.length none) st) (GE X.K Q) := by
    rw [callF_eta er]
    exact q
  have hq : spF X.K F vs H Q (WE (fun _ _ _ _ => False) σ) := call_sp rs sl rd af
  have hl : us.length = ps.length := by rw [← ru.length]; exact Fo.len _ _ _ _ hq
  have bb := hb s us I.kIn (by rw [List.append_nil]; exact hl)
  rw [List.append_nil] at bb
  refine wpAny_call (codeAny_mono (Fo.run A X.stack s H ⟨us, []⟩ _ _ Q (WE (fun _ _ _ _ => False) σ) hr e0 bb ru hq) fun r s' hq => ?_)
  cases r with
  | error e =>
    obtain ⟨_, _, _, _, _, _, _, _, _, _, _, _, hE⟩ := hq
    exact hE.elim
  | ok fl =>
    cases fl with
    | ret u => exact I.after hq
    | next => exact False.elim hq
    | brk => exact False.elim hq
    | cont => exact False.elim hq
theorem c_lenX (hT : ∀ c F, (c, F) ∈ tab → MethT X.prog X.w X.K X.mg X.base k "__len__" ps c F) (hr : Room j X.A) (hk : k + 1 ≤ j := by decide) : CallR X (.builtin "len") (rMA X.K W (lenX tab)) := by
  intro pins s σ H xs us Q I r ⟨ds, Z, φ, st, rs, rdd, af⟩
  unfold lenX at af
  split at af
  · rename_i d
    obtain ⟨v, rfl, rd⟩ := rdd.one
    split at af
    · rename_i F eF
      obtain ⟨c, ec, el⟩ := Option.bind_eq_some_iff.mp eF
      obtain ⟨a, dx, gs, rfl, hx⟩ := clsOf_ok rs ec rd
      obtain ⟨f2, fd, hc, hm, Fo, hb⟩ := hT c F (look1_mem el)
      obtain ⟨u, rfl, ru⟩ := vals1 r
      obtain rfl : u = Value.ref a := ru
      obtain ⟨mA, J, _⟩ := ins_get I.hok hx
      obtain ⟨od, J, _⟩ := J.look
      unfold callZ at af
      cases er : callF F [d] [] st with
      | stuck => rw [er] at af; exact af.elim
      | exc c fs η st => rw [er] at af; exact af.elim
      | ok q =>
        rw [er] at af
        have af : Af X.K W Z φ H (match q.1 with
          | .fz (.int n) => if 0 ≤ n ∧ n < 2 ^ 62 then R.ok (D.fz (.int n), q.2) else .stuck
          | _ => .stuck) (GE X.K Q) := af
        refine len_own I.kIn J hm.at_ (beq_iff_eq.mp hm.fn) (wpAny_mono (own_callN (Q := fun v H => ∃ n, v = .int n ∧ 0 ≤ n ∧ n < 2 ^ 62 ∧ Q (.int n) H) (ds := [d]) (Room.in1 (hr.mono hk)) Fo hb I I.env0.in1 rs rdd (.cons rfl .nil) er (fun Z' φ' H' t rs' v rv => ?_)) (fun v' s' hv => ?_) fun _ _ x => x)
        · split at af
          · rename_i n en
            rw [en] at rv
            obtain rfl := fz_int rv
            by_cases hn : 0 ≤ n ∧ n < 2 ^ 62
            · rw [if_pos hn] at af
              exact ⟨n, rfl, hn.1, hn.2, af Z' φ' H' t rs' _ rep_int⟩
            · rw [if_neg hn] at af; exact af.elim
          · exact af.elim
        · obtain ⟨z, H', I', rz, n, rfl, h0, h1, qz⟩ := hv
          obtain ⟨t, rfl⟩ : ∃ t, v' = Value.int n t := rz
          exact ⟨n, t, rfl, h0, by omega, fun t' => ⟨.int n, H', I'.tok _, ⟨_, rfl⟩, qz⟩⟩
    · exact c_len pins s σ H _ us Q I r ⟨[d], Z, φ, st, rs, rdd, af⟩
  · exact af.elim
end
end M
end
section
set_option Elab.async false
set_option linter.all false
set_option maxRecDepth 100000
set_option maxHeartbeats 0
namespace M
open PySem L2
end M
end
section
set_option Elab.async false
set_option linter.all false
set_option maxRecDepth 100000
set_option maxHeartbeats 0
namespace M
open PySem L2
def frR (g : Addr → Option Obj) : List Addr → PySem.W.Frag
  | [] => []
  | a :: r => match g a with
    | some o => (match emptyTabB (some o) with
      | true => frR g r
      | false => (a, o) :: frR g r)
    | none => frR g r
theorem frR_mem {g : Addr → Option Obj} {a : Addr} {o : Obj} : ∀ {l : List Addr}, (a, o) ∈ frR g l → g a = some o
  | [], h => by cases h
  | b :: r, h => by
    unfold frR at h
    cases e : g b with
    | none => rw [e] at h; exact frR_mem h
    | some p =>
      rw [e] at h
      dsimp only at h
      split at h
      · exact frR_mem h
      · rcases List.mem_cons.mp h with q | q
        · cases q; exact e
        · exact frR_mem q
theorem look_mem {a : Addr} {o : Obj} : ∀ {K : PySem.W.Frag}, K.lookup a = some o → (a, o) ∈ K
  | [], h => by cases h
  | (b, p) :: K, h => by
    rw [List.lookup_cons] at h
    split at h
    · rename_i q
      cases h
      rw [beq_iff_eq.mp q]
      exact List.mem_cons_self
    · exact List.mem_cons_of_mem _ (look_mem h)
theorem frR_in {h : Heap} {l : List Addr} : PySem.W.Frag.In (frR h.get? l) h := fun a o e => frR_mem (look_mem e)
def upA : Nat → Nat → List Addr
  | 0, _ => []
  | k + 1, lo => lo :: upA k (lo + 1)
def asR (lo n : Nat) : List Addr := mainGlobals :: cStatics :: upA (n - lo) lo
def obsR (lo : Nat) (q : Wants) (g : Addr → Option Obj) (n : Nat) : AlM := obsM q (frR g (asR lo n)) g
def hookR (lo : Nat) (q : Wants) : PySem.W.Hook where
  α := AlM
  obs := fun s => obsR lo q s.heap.get? s.heap.objs.size
  val := fun _ => valM q
  says := fun _ h => ∃ K : PySem.W.Frag, SaysM q K h
  of := fun _ _ e => ⟨_, saysM_of frR_in e⟩
  keeps := fun _ _ _ ⟨K, c⟩ k => ⟨K, c.keeps k⟩
theorem obsR_eq {lo : Nat} {q : Wants} {g : Addr → Option Obj} {n : Nat} {s : Shared} (h : ∀ a, g a = s.heap.get? a) (hn : n = s.heap.objs.size) : obsR lo q g n = (hookR lo q).obs s := by
  have e : g = s.heap.get? := funext h
  rw [e, hn] <;> rfl
theorem map3b {α β γ δ : Type} {o : Option α} {f : α → β} {g : α → γ} {h : α → δ} {b : β} {c : γ} {d : δ} (h1 : o.map f = some b) (h3 : o.map g = some c) (h2 : o.map h = some d) : o.map (fun s => (f s, g s, h s)) = some (b, c, d) := by
  cases o with
  | none => cases h1
  | some s => cases h1; cases h2; cases h3; rfl
/-- the looks of the Hook, one by one -/
theorem obs_parts {α : Type} {q : Wants} {o : Option α} {K : α → PySem.W.Frag} {g : α → Addr → Option Obj} (h1 : o.map (fun s => q.fa.all fun f => f.ok (K s)) = some true) (h2 : o.map (fun s => q.fn.all fun d => d.ok (K s)) = some true)
    (h3 : o.map (fun s => q.fn.map fun d => He.fnW (K s) d.at_) = some (q.fn.map He.DefD.val)) (h4 : o.map (fun s => q.ck.all fun c => c.ok (K s)) = some true)
    (h5 : o.map (fun s => (q.cf.all (fun d => d.ok (K s) q.file), tabsB (K s) (g s), (q.cf.map fun d => fnC (K s) d.at_), q.gf.all (fun d => d.ok (K s)), q.gf.map fun d => fnG (K s) (d.adr (K s)))) = some (true, true, q.cf.map DefC.val, true, q.gf.map DefG.val)) :
    o.map (fun s => obsM q (K s) (g s)) = some (valM q) := by
  cases o with
  | none => cases h1
  | some s =>
    have e1 := Option.some.inj h1
    have e2 := Option.some.inj h2
    have e3 := Option.some.inj h3
    have e4 := Option.some.inj h4
    dsimp only at e1 e2 e3 e4
    have e5 := Option.some.inj h5
    obtain ⟨e5, e6⟩ := Prod.mk.inj e5
    obtain ⟨e6, e7⟩ := Prod.mk.inj e6
    obtain ⟨e7, e8⟩ := Prod.mk.inj e7
    obtain ⟨e8, e9⟩ := Prod.mk.inj e8
    show some (obsM q (K s) (g s)) = _
    unfold obsM valM He.obsD He.valD
    rw [e1, e2, e3, e4, e5, e6, e7, e8, e9]
    rfl
end M
end
section
set_option Elab.async false
set_option linter.all false
set_option maxRecDepth 100000
set_option maxHeartbeats 0
namespace M
open PySem L2
abbrev I3 : Type := Int × Int × Int
def IsTri (h : Heap) (v : Value) (x y z : Int) : Prop := ∃ a o t u w n, v = .ref a ∧ h.get? a = some o ∧ o.cls = .type "tuple" ∧ o.data = .seq #[.int x t, .int y u, .int z w] n
theorem IsTri.keeps {h h' : Heap} {v : Value} {x y z : Int} (p : IsTri h v x y z) (k : ∀ b o, h.get? b = some o → o.cls = .type "tuple" → h'.get? b = some o) : IsTri h' v x y z := by
  obtain ⟨a, o, t, u, w, n, e, ho, hc, hd⟩ := p
  exact ⟨a, o, t, u, w, n, e, k _ _ ho hc, hc, hd⟩
end M
end
section
set_option Elab.async false
set_option linter.all false
set_option maxRecDepth 100000
set_option maxHeartbeats 0
namespace M
open PySem L2
section
variable {K : PySem.W.Frag} {Z Z' H : Hp} {φ : List Addr}
theorem RepDs.append : ∀ {ds es : List D} {vs ws : List V}, RepDs K Z φ ds vs → RepDs K Z φ es ws → RepDs K Z φ (ds ++ es) (vs ++ ws)
  | [], es, vs, ws, h, g => by cases (show vs = [] from h); exact g
  | d :: ds, es, vs, ws, h, g => by
    obtain ⟨v, us, rfl, h1, h2⟩ := h
    exact ⟨v, us ++ ws, rfl, h1, RepDs.append h2 g⟩
theorem RepDs.get : ∀ {ds : List D} {vs : List V} {i : Nat} {d : D}, RepDs K Z φ ds vs → ds[i]? = some d → ∃ v, vs[i]? = some v ∧ RepD K Z φ d v
  | [], vs, i, d, h, e => by simp at e
  | x :: ds, vs, 0, d, h, e => by
    obtain ⟨v, ws, rfl, h1, h2⟩ := h
    cases e
    exact ⟨v, rfl, h1⟩
  | x :: ds, vs, i + 1, d, h, e => by
    obtain ⟨v, ws, rfl, h1, h2⟩ := h
    have := RepDs.get (i := i) (d := d) h2 (by simpa using e)
    simpa using this
theorem RepDs.atI {ds : List D} {vs : List V} {i : Int} {d : D} (h : RepDs K Z φ ds vs) (e : L2.atI ds i = some d) : ∃ v, L2.atI vs i = some v ∧ RepD K Z φ d v := by
  unfold L2.atI at e ⊢
  rw [← h.length]
  cases q : ixN ds.length i with
  | none => rw [q] at e; cases e
  | some j => rw [q] at e; exact h.get e
end
end M
end
section
set_option Elab.async false
set_option linter.all false
set_option maxRecDepth 100000
set_option maxHeartbeats 0
namespace M
open PySem L2
end M
end
section
set_option Elab.async false
set_option linter.all false
set_option maxRecDepth 100000
set_option maxHeartbeats 0
namespace M
open PySem L2
end M
end
section
set_option Elab.async false
set_option linter.all false
set_option maxRecDepth 100000
set_option maxHeartbeats 0
namespace M
open PySem L2
end M
end
section
set_option Elab.async false
set_option linter.all false
set_option maxRecDepth 100000
set_option maxHeartbeats 0
namespace M
open PySem L2
abbrev DI := Et → Sr → R (List P × Sr)
def lc2D (b : P → Et → Option Et) (i1 : Nat) (src : DI) (t1 : DT) (fe : DE) (η : Et) : List P → List P → Sr → R (List P × Sr)
  | [], acc, st => .ok (acc, st)
  | x :: xs, acc, st => match b x (η.set i1 none) with
    | none => .stuck
    | some η1 => (src η1 st).bind fun a => (lcD i1 t1 fe η1 a.1 acc a.2).bind fun c => lc2D b i1 src t1 fe η xs c.1 c.2
structure ItOk (K : PySem.W.Frag) (J : It) (ys : List P) (Ex : Hp → Prop) : Prop where
  mono : ∀ Z Z', Same Z Z' → Ex Z → Ex Z'
  run : ∀ (Pv : Nat → Hp → Prop) (H0 : Hp) (End : Hp → Prop) (Body : V → Hp → (Hp → Prop) → Prop), Pv 0 H0 → (∀ i H, i ≤ ys.length → Pv i H → ∃ Z, Same Z H ∧ Ex Z) →
    (∀ i y v H, ys[i]? = some y → (∀ Z, Same Z H → Ex Z → Rep K Z y v) → Pv i H → Body v H (Pv (i + 1))) → (∀ H, Pv ys.length H → End H) →
    ∃ W : Nat → Nat → Hp → Prop, (∃ m, W 0 m H0) ∧ ∀ i m H, W i m H → (J.stop i H ∧ End H) ∨ (J.go i H ∧ ∃ Nx : Hp → Prop, (∀ H', Nx H' → ∃ m', m' < m ∧ W (i + 1) m' H') ∧ ∀ x H', J.yld i H x H' → Body x H' Nx)
section
variable {K : PySem.W.Frag}
structure TgB (K : PySem.W.Frag) (vs : List Nat) (i1 : Nat) (b : P → Et → Option Et) (g : TG) : Prop where
  run : ∀ {Z H : Hp} {φ : List Addr} {η η1 : Et} {σ : St} {x : P} {v : V} {Q : St → Hp → Prop}, Same Z H → Rep K Z x v → Slots K Z φ η σ → b x (η.set i1 none) = some η1 → (∀ σ1, wipe σ1 vs = wipe σ vs → Slots K Z φ η1 σ1 → Q σ1 H) → g v (wipe σ vs) H Q
theorem SlotsX.nil {Z : Hp} {φ : List Addr} {η : Et} {σ : St} (h : SlotsX K Z φ [] η σ) : Slots K Z φ η σ := ⟨h.len, fun i d e => h.at_ i d (by simp) e⟩
structure SrcOk (K : PySem.W.Frag) (src : DI) (wi : TI) : Prop where
  run : ∀ {Z H : Hp} {φ : List Addr} {η : Et} {σ : St} {st st' : Sr} {ys : List P} {R : It → Hp → Prop}, RS K Z φ st H → Slots K Z φ η σ → src η st = .ok (ys, st') → (∀ Z1 φ1 H1 J Ex, Step Z φ H Z1 φ1 H1 → RS K Z1 φ1 st' H1 → Ex Z1 → ItOk K J ys Ex → R J H1) → wi σ H R
end
section
def LcO (K : PySem.W.Frag) (W : WX) (b : P → Et → Option Et) (i1 : Nat) (src : DI) (t1 : DT) (fe : DE) (η : Et) (Q : VK) (σ : St) (Z0 : Hp) (φ0 : List Addr) (H0 : Hp) (p : Addr) (Ex : Hp → Prop) (xs : List P) (H : Hp) : Prop :=
  ∃ Z φ st acc, RS K Z φ st H ∧ Slots K Z φ η σ ∧ Ex Z ∧ Mk1 K Z φ H p acc ∧ Step Z0 φ0 H0 Z φ H ∧ Af K W Z0 φ0 H0 (lcZ (lc2D b i1 src t1 fe η xs acc st)) (GE K Q)
def LcQ (K : PySem.W.Frag) (W : WX) (i : Nat) (t : DT) (fe : DE) (η η1 : Et) (k : List P → Sr → R (List P × Sr)) (Q : VK) (σ σ1 : St) (Z0 : Hp) (φ0 : List Addr) (H0 : Hp) (p : Addr) (Ex : Hp → Prop) (ys : List P) (H : Hp) : Prop :=
  ∃ Z φ st acc, RS K Z φ st H ∧ Slots K Z φ η σ ∧ Slots K Z φ η1 σ1 ∧ Ex Z ∧ Mk1 K Z φ H p acc ∧ Step Z0 φ0 H0 Z φ H ∧ Af K W Z0 φ0 H0 (lcZ ((lcD i t fe η1 ys acc st).bind fun c => k c.1 c.2)) (GE K Q)
variable {K : PySem.W.Frag} {W : WX} {i : Nat} {t : DT} {fe : DE} {η η1 : Et} {k : List P → Sr → R (List P × Sr)} {Q : VK} {σ σ1 : St} {Z0 H0 : Hp} {φ0 : List Addr} {p : Addr} {Ex : Hp → Prop}
theorem LcQ.turn (h0 : H0 p = none) (hm : ∀ Z Z', Same Z Z' → Ex Z → Ex Z') {x : P} {ys : List P} {H : Hp} {v : V} (h : LcQ K W i t fe η η1 k Q σ σ1 Z0 φ0 H0 p Ex (x :: ys) H) (hv : ∀ Z, Same Z H → Ex Z → Rep K Z x v) :
    tT K W0 t (σ1.set i (some v)) H (fun b H3 => if b = true then tE K W0 fe (σ1.set i (some v)) H3 (fun y H4 => ∃ acc, H4 p = some (.lst acc) ∧ acc.length < sizeLine ∧ LcQ K W i t fe η η1 k Q σ σ1 Z0 φ0 H0 p Ex ys (upd H4 p (.lst (acc ++ [y])))) else LcQ K W i t fe η η1 k Q σ σ1 Z0 φ0 H0 p Ex ys H3) := by
  obtain ⟨Z, φ, st, acc, rs, sl, sl1, ex, m, s, af⟩ := h
  have slv : Slots K Z φ (η1.set i (some (.fz x))) (σ1.set i (some v)) := sl1.set (hv Z rs.same ex)
  refine ⟨Z, φ, _, st, rs, slv, ?_⟩
  obtain ⟨⟨acc', st'⟩, he⟩ := lcZ_some af
  have he0 := he
  unfold lcD at he
  cases e1 : t (η1.set i (some (.fz x))) st with
  | exc => rw [e1] at he; cases he
  | stuck => rw [e1] at he; cases he
  | ok a =>
    rw [e1] at he
    intro Z1 φ1 H1 s1 rs1
    have he1 : ((if a.1 = true then (fe (η1.set i (some (.fz x))) a.2).bind fun b => match toP b.2 b.1 with
      | some (p, st2) => if acc.length < szL then lcD i t fe η1 ys (acc ++ [p]) st2 else .stuck
      | none => .stuck
    else lcD i t fe η1 ys acc a.2).bind fun c => k c.1 c.2) = .ok (acc', st') := he
    have m1 := m.step s1
    by_cases ha : a.1 = true
    · rw [if_pos ha] at he1 ⊢
      refine ⟨Z1, φ1, _, a.2, rs1, slv.mono s1, ?_⟩
      cases e2 : fe (η1.set i (some (.fz x))) a.2 with
      | exc => rw [e2] at he1; cases he1
      | stuck => rw [e2] at he1; cases he1
      | ok b =>
        rw [e2] at he1
        intro Z2 φ2 H2 s2 rs2 y ry
        have he2 : ((match toP b.2 b.1 with
          | some (p, st2) => if acc.length < szL then lcD i t fe η1 ys (acc ++ [p]) st2 else .stuck
          | none => .stuck).bind fun c => k c.1 c.2) = .ok (acc', st') := he1
        have m2 := m1.step s2
        obtain ⟨vs, h1, h2⟩ := m2.at_
        cases e3 : toP b.2 b.1 with
        | none => rw [e3] at he2; cases he2
        | some pr =>
          obtain ⟨q, st3⟩ := pr
          rw [e3] at he2
          dsimp only at he2
          split at he2
          · rename_i hz
            obtain ⟨Z3, f3, rs3, r3⟩ := toP_ok rs2 e3 ry
            have m3 := m2.step f3.step
            obtain ⟨rs4, m4⟩ := m3.push rs3 h1 r3
            have s3 := ((s.trans s1).trans s2).trans f3.step
            refine ⟨vs, h1, by rw [← h2.length, ← szL_eq]; exact hz, Z3, φ2, st3, acc ++ [q], rs4, ((sl.mono s1).mono s2).mono f3.step, ((sl1.mono s1).mono s2).mono f3.step, hm _ _ f3.hz (hm _ _ s2.hz (hm _ _ s1.hz ex)), m4, ?_, ?_⟩
            · refine ⟨s3.hz, s3.pre, fun b o hb hn ht => ?_, s3.zn, fun b hb => ?_, fun b q u hb => by rw [upd_ne (by rintro rfl; rw [h0] at hb; cases hb)]; exact s3.lk b q u hb⟩
              · rw [upd_ne]
                · exact s3.fr b o hb hn ht
                · rintro rfl
                  rw [h0] at hb; cases hb
              · by_cases q : b = p
                · subst q; exact .of h0
                · exact s3.up b fun o ho => hb o (by rw [upd_ne q]; exact ho)
            · rw [he2]; rw [he0] at af; exact af
          · cases he2
    · rw [if_neg ha] at he1 ⊢
      exact ⟨Z1, φ1, a.2, acc, rs1, sl.mono s1, sl1.mono s1, hm _ _ s1.hz ex, m1, s.trans s1, by rw [he1]; rw [he0] at af; exact af⟩
variable {b : P → Et → Option Et} {i1 : Nat} {src : DI} {t1 : DT} {vs : List Nat} {g : TG} {wi : TI}
theorem LcO.turn (tg : TgB K vs i1 b g) (so : SrcOk K src wi) (h0 : H0 p = none) (hm : ∀ Z Z', Same Z Z' → Ex Z → Ex Z') {x : P} {xs : List P} {H : Hp} {v : V} (h : LcO K W b i1 src t1 fe η Q σ Z0 φ0 H0 p Ex (x :: xs) H) (hv : ∀ Z, Same Z H → Ex Z → Rep K Z x v) :
    g v (wipe σ vs) H fun σ2 H2 => wipe σ2 vs = wipe σ vs ∧ tT K W0 dYes σ2 H2 fun c H3 => if c = true then wi σ2 H3 (fun J1 H4 => ∃ W1 : Nat → Nat → Hp → Prop, (∃ m, W1 0 m H4) ∧ ∀ j k H, W1 j k H →
      (J1.stop j H ∧ LcO K W b i1 src t1 fe η Q σ Z0 φ0 H0 p Ex xs H) ∨ (J1.go j H ∧ ∃ Nx1 : Hp → Prop, (∀ H', Nx1 H' → ∃ k', k' < k ∧ W1 (j + 1) k' H') ∧ ∀ x H', J1.yld j H x H' → gName i1 x (wipe σ2 [i1]) H' fun σ3 H5 => wipe σ3 [i1] = wipe σ2 [i1] ∧ tT K W0 t1 σ3 H5 fun c H6 =>
        if c = true then tE K W0 fe σ3 H6 (fun y H7 => ∃ acc, H7 p = some (.lst acc) ∧ acc.length < sizeLine ∧ Nx1 (upd H7 p (.lst (acc ++ [y])))) else Nx1 H6))
    else LcO K W b i1 src t1 fe η Q σ Z0 φ0 H0 p Ex xs H3 := by
  obtain ⟨Z, φ, st, acc, rs, sl, ex, m, s, af⟩ := h
  obtain ⟨⟨acc', st'⟩, he⟩ := lcZ_some af
  have hu : lc2D b i1 src t1 fe η (x :: xs) acc st = (match b x (η.set i1 none) with
    | none => R.stuck
    | some η1 => (src η1 st).bind fun a => (lcD i1 t1 fe η1 a.1 acc a.2).bind fun c => lc2D b i1 src t1 fe η xs c.1 c.2) := rfl
  cases e0 : b x (η.set i1 none) with
  | none => rw [hu, e0] at he; cases he
  | some η1 =>
    rw [e0] at hu
    cases e1 : src η1 st with
    | exc => rw [hu] at he; dsimp only at he; rw [e1] at he; cases he
    | stuck => rw [hu] at he; dsimp only at he; rw [e1] at he; cases he
    | ok a =>
      dsimp only at hu
      rw [e1] at hu
      have hu : lc2D b i1 src t1 fe η (x :: xs) acc st = (lcD i1 t1 fe η1 a.1 acc a.2).bind fun c => lc2D b i1 src t1 fe η xs c.1 c.2 := hu
      rw [hu] at af
      refine tg.run rs.same (hv Z rs.same ex) sl e0 fun σ1 hw sl1 => ⟨hw, Z, φ, η1, st, rs, sl1, ?_⟩
      intro Z1 φ1 H1 s1 rs1
      show if true = true then _ else _
      rw [if_pos rfl]
      refine so.run rs1 (sl1.mono s1) e1 fun Z2 φ2 H2 J Ex1 s2 rs2 ex1 it => ?_
      refine it.run (fun j H => LcQ K W i1 t1 fe η η1 (fun acc st => lc2D b i1 src t1 fe η xs acc st) Q σ σ1 Z0 φ0 H0 p (fun Z => Ex Z ∧ Ex1 Z) (a.1.drop j) H) H2 _ (fun v H Nx1 => gName i1 v (wipe σ1 [i1]) H fun σ3 H5 => wipe σ3 [i1] = wipe σ1 [i1] ∧ tT K W0 t1 σ3 H5 fun c H6 =>
        if c = true then tE K W0 fe σ3 H6 (fun y H7 => ∃ acc, H7 p = some (.lst acc) ∧ acc.length < sizeLine ∧ Nx1 (upd H7 p (.lst (acc ++ [y])))) else Nx1 H6) ?_ (fun j H _ hq => ?_) (fun j y v H hy hr hq => ?_) (fun H hq => ?_)
      · rw [List.drop_zero]
        exact ⟨Z2, φ2, a.2, acc, rs2, (sl.mono s1).mono s2, (sl1.mono s1).mono s2, ⟨hm _ _ s2.hz (hm _ _ s1.hz ex), ex1⟩, (m.step s1).step s2, (s.trans s1).trans s2, af⟩
      · obtain ⟨Z3, _, _, _, rs3, _, _, ⟨_, ex3⟩, _⟩ := hq
        exact ⟨Z3, rs3.same, ex3⟩
      · have hl : j < a.1.length := (List.getElem?_eq_some_iff.mp hy).1
        have ey : a.1[j] = y := by rw [List.getElem?_eq_getElem hl] at hy; exact Option.some.inj hy
        rw [drop_cons (List.getElem?_eq_getElem hl), ey] at hq
        refine ⟨wipe1 _ _ _, ?_⟩
        rw [wipe1s]
        exact hq.turn h0 (fun Z Z' s ⟨q1, q2⟩ => ⟨hm _ _ s q1, it.mono _ _ s q2⟩) fun Z hs ⟨_, q2⟩ => hr Z hs q2
      · rw [List.drop_length] at hq
        obtain ⟨Z3, φ3, st3, acc3, rs3, sl3, _, ⟨ex3, _⟩, m3, s3, af3⟩ := hq
        exact ⟨Z3, φ3, st3, acc3, rs3, sl3, ex3, m3, s3, af3⟩
theorem LcO.done {H : Hp} (h0 : H0 p = none) (h : LcO K W b i1 src t1 fe η Q σ Z0 φ0 H0 p Ex [] H) : Q (.ref p) H := by
  obtain ⟨Z, φ, st, acc, rs, sl, ex, m, s, af⟩ := h
  exact LcJ.done (i := 0) (t := dYes) (fe := fe) (η := η) (Ex := Ex) h0 ⟨Z, φ, st, acc, rs, sl, ex, m, s, af⟩
end
end M
end
section
set_option Elab.async false
set_option linter.all false
set_option maxRecDepth 100000
set_option maxHeartbeats 0
namespace M
open PySem PySem.Spec PyProof.Rows L2
end M
end
section
set_option Elab.async false
set_option linter.all false
set_option maxRecDepth 100000
set_option maxHeartbeats 0
namespace M
open PySem L2
end M
end
section
set_option Elab.async false
set_option linter.all false
set_option maxRecDepth 100000
set_option maxHeartbeats 0
namespace M
open PySem L2
end M
end
section
set_option Elab.async false
set_option linter.all false
set_option maxRecDepth 100000
set_option maxHeartbeats 0
namespace M
open PySem PySem.Spec PyProof.Rows L2
end M
end
section
set_option Elab.async false
set_option linter.all false
set_option maxRecDepth 100000
set_option maxHeartbeats 0
namespace M
open PySem PySem.Spec PyProof.Rows L2
end M
end
section
set_option Elab.async false
set_option linter.all false
set_option maxRecDepth 100000
set_option maxHeartbeats 0
namespace M
open PySem L2
end M
end
section
set_option Elab.async false
set_option linter.all false
set_option maxRecDepth 100000
set_option maxHeartbeats 0
namespace M
open PySem L2
end M
end
section
set_option Elab.async false
set_option linter.all false
set_option maxRecDepth 100000
set_option maxHeartbeats 0
namespace M
open PySem L2
end M
end
section
set_option Elab.async false
set_option linter.all false
set_option maxRecDepth 100000
set_option maxHeartbeats 0
namespace M
open PySem L2
end M
end
section
set_option Elab.async false
set_option linter.all false
set_option maxRecDepth 100000
set_option maxHeartbeats 0
namespace M
open PySem L2
def dcD (i : Nat) (fk fv : DE) (η : Et) : List P → List (Key × P) → Sr → R (List (Key × P) × Sr)
  | [], acc, st => .ok (acc, st)
  | x :: xs, acc, st => (fk (η.set i (some (.fz x))) st).bind fun a => (fv (η.set i (some (.fz x))) a.2).bind fun b => match (peek b.2 a.1).bind keyP, toP b.2 b.1 with
    | some k, some (p, st2) => if ndK acc = true ∧ acc.length < szL then dcD i fk fv η xs (putP k p acc) st2 else .stuck
    | _, _ => .stuck
section
variable {K : PySem.W.Frag} {Z H : Hp} {φ : List Addr}
/-- the dict that is being made, beside the store -/
structure Mk2 (K : PySem.W.Frag) (Z : Hp) (φ : List Addr) (H : Hp) (p : Addr) (acc : List (Key × P)) : Prop where
  out : p ∉ φ
  zn : Z p = none
  at_ : ∃ kws, H p = some (.dK kws) ∧ RepK K Z acc kws
theorem Mk2.step {Z' H' : Hp} {φ' : List Addr} {p : Addr} {acc : List (Key × P)} (m : Mk2 K Z φ H p acc) (s : Step Z φ H Z' φ' H') : Mk2 K Z' φ' H' p acc := by
  obtain ⟨vs, h1, h2⟩ := m.at_
  refine ⟨fun hm => ?_, ?_, vs, s.fr p _ h1 m.out dat_dK.1, RepK.mono s.hz _ _ h2⟩
  · obtain ⟨psi, rfl, hn⟩ := s.pre
    rcases List.mem_append.mp hm with hm | hm
    · exact m.out hm
    · exact (hn p hm).no h1 dat_dK.1
  · cases q : Z' p with
    | none => rfl
    | some o =>
      exfalso
      rcases s.zn p (by rw [q]; exact fun z => nomatch z) with z | z | z
      · exact z m.zn
      · exact z.no h1 dat_dK.1
      · exact m.out z
theorem Mk2.push {st : Sr} {p : Addr} {acc : List (Key × P)} {k : Key} {x : P} {v : V} {kws : List (Key × V)} (m : Mk2 K Z φ H p acc) (rs : RS K Z φ st H) (h1 : H p = some (.dK kws)) (hn : ndK acc = true) (r : Rep K Z x v) :
    RS K Z φ st (upd H p (.dK (putK kws k v))) ∧ Mk2 K Z φ (upd H p (.dK (putK kws k v))) p (putP k x acc) := by
  obtain ⟨ws, h2, h3⟩ := m.at_
  rw [h1] at h2; cases h2
  refine ⟨⟨fun b u hb => ?_, rs.len, rs.nd, fun i b c hi hc => ?_, tabs_upd rs.tb (fun u hu => by rw [h1] at hu; cases hu; exact dat_dK), rs.zd⟩, m.out, m.zn, _, upd_same, putP_ok r hn h3⟩
  · rw [upd_ne (by rintro rfl; rw [m.zn] at hb; cases hb)]; exact rs.same b u hb
  · have nb : b ≠ p := by rintro rfl; exact m.out (List.mem_of_getElem? hi)
    exact (rs.cells i b c hi hc).keep (Same.refl _) ⟨[], by simp⟩ (fun q => (rs.cells i b c hi hc).free q) fun u hu _ => by rw [upd_ne nb]; exact hu
end
/-- the loop's state: behind all turns the dict is unlocked -/
def DcI (K : PySem.W.Frag) (W : WX) (n i : Nat) (fk fv : DE) (η : Et) (Q : VK) (σ : St) (Z0 : Hp) (φ0 : List Addr) (H0 : Hp) (d : Addr) (p : Addr) (ys : List P) (H : Hp) : Prop :=
  ∃ Z φ st acc, RS K Z φ st H ∧ Slots K Z φ η σ ∧ Mk2 K Z φ H p acc ∧ Step Z0 φ0 H0 Z φ H ∧ (∀ (Z' : Hp) (φ' : List Addr) (H' : Hp) (st' : Sr) (acc' : List (Key × P)), RS K Z' φ' st' H' → Mk2 K Z' φ' H' p acc' → Step Z0 φ0 H0 Z' φ' H' → dcD i fk fv η ys acc st = .ok (acc', st') → ∃ o kws, H' d = some (.frz o (.dK kws)) ∧ Q (.ref p) (upd H' d (.dK kws))) ∧ ∃ r, dcD i fk fv η ys acc st = .ok r
section
variable {K : PySem.W.Frag} {W : WX} {n i : Nat} {fk fv : DE} {η : Et} {Q : VK} {σ : St} {Z0 H0 : Hp} {φ0 : List Addr} {p d : Addr}
theorem DcI.done {H : Hp} (h : DcI K W n i fk fv η Q σ Z0 φ0 H0 d p [] H) : ∃ o kws, H d = some (.frz o (.dK kws)) ∧ Q (.ref p) (upd H d (.dK kws)) := by
  obtain ⟨Z, φ, st, acc, rs, sl, m, s, af, _⟩ := h
  exact af Z φ H st acc rs m s rfl
theorem DcI.turn (h0 : H0 p = none) {x : P} {ys : List P} {H : Hp} {v : V} (h : DcI K W n i fk fv η Q σ Z0 φ0 H0 d p (x :: ys) H) (hv : ∀ Z, Rep K Z x v) :
    tE K W0 fk (σ.set i (some v)) H fun y H4 => tE K W0 fv (σ.set i (some v)) H4 fun z H5 => ∃ kvs k, y = kV k ∧ H5 p = some (.dK kvs) ∧ kvs.length < sizeLine ∧ DcI K W n i fk fv η Q σ Z0 φ0 H0 d p ys (upd H5 p (.dK (putK kvs k z))) := by
  obtain ⟨Z, φ, st, acc, rs, sl, m, s, af, ⟨⟨acc', st'⟩, he⟩⟩ := h
  have slv : Slots K Z φ (η.set i (some (.fz x))) (σ.set i (some v)) := sl.set (hv Z)
  refine ⟨Z, φ, _, st, rs, slv, ?_⟩
  have he0 := he
  unfold dcD at he
  cases e1 : fk (η.set i (some (.fz x))) st with
  | exc => rw [e1] at he; cases he
  | stuck => rw [e1] at he; cases he
  | ok a =>
    rw [e1] at he
    intro Z1 φ1 H1 s1 rs1 y ry
    have m1 := m.step s1
    refine ⟨Z1, φ1, _, a.2, rs1, slv.mono s1, ?_⟩
    have he1 : ((fv (η.set i (some (.fz x))) a.2).bind fun b => match (peek b.2 a.1).bind keyP, toP b.2 b.1 with
      | some k, some (p, st2) => if ndK acc = true ∧ acc.length < szL then dcD i fk fv η ys (putP k p acc) st2 else .stuck
      | _, _ => .stuck) = .ok (acc', st') := he
    cases e2 : fv (η.set i (some (.fz x))) a.2 with
    | exc => rw [e2] at he1; cases he1
    | stuck => rw [e2] at he1; cases he1
    | ok b =>
      rw [e2] at he1
      intro Z2 φ2 H2 s2 rs2 z rz
      have m2 := m1.step s2
      obtain ⟨kws, h1, h2⟩ := m2.at_
      have he2 : (match (peek b.2 a.1).bind keyP, toP b.2 b.1 with
        | some k, some (p, st2) => if ndK acc = true ∧ acc.length < szL then dcD i fk fv η ys (putP k p acc) st2 else .stuck
        | _, _ => .stuck) = .ok (acc', st') := he1
      split at he2
      · rename_i k q st3 ek e3
        obtain ⟨pi, e6, e7⟩ := Option.bind_eq_some_iff.mp ek
        have hk := keyP_rep ((peek_pk rs2 e6 (ry.mono s2.hz s2.app)).rp rs2.same) e7
        split at he2
        · rename_i hz
          obtain ⟨Z3, f3, rs3, r3⟩ := toP_ok rs2 e3 rz
          have m3 := m2.step f3.step
          obtain ⟨rs4, m4⟩ := m3.push (k := k) rs3 h1 hz.1 r3
          have s3 := ((s.trans s1).trans s2).trans f3.step
          refine ⟨kws, k, hk, h1, by rw [← h2.length, ← szL_eq]; exact hz.2, Z3, φ2, st3, putP k q acc, rs4, ((sl.mono s1).mono s2).mono f3.step, m4, ?_, ?_, ⟨_, he2⟩⟩
          · refine ⟨s3.hz, s3.pre, fun b o hb hn ht => ?_, s3.zn, fun b hb => ?_, fun b q u hb => ?_⟩
            · rw [upd_ne]
              · exact s3.fr b o hb hn ht
              · rintro rfl
                rw [h0] at hb; cases hb
            · by_cases q : b = p
              · subst q; exact .of h0
              · exact s3.up b fun o ho => hb o (by rw [upd_ne q]; exact ho)
            · rw [upd_ne (by rintro rfl; rw [h0] at hb; cases hb)]; exact s3.lk b q u hb
          · intro Z' φ' H' st'' acc'' r1 r2 r3' r4
            rw [he2] at r4
            cases r4
            exact af Z' φ' H' _ _ r1 r2 r3' he0
        · cases he2
      · cases he2
end
end M
end
section
set_option Elab.async false
set_option linter.all false
set_option maxRecDepth 100000
set_option maxHeartbeats 0
namespace M
open PySem L2
section
variable {K : PySem.W.Frag} {W : WX} {g : DG} {b : DS} {E : St → Hp → Prop} {Z0 H0 : Hp} {φ0 : List Addr}
def LkI (K : PySem.W.Frag) (g : DG) (b : DS) (E : St → Hp → Prop) (Z0 : Hp) (φ0 : List Addr) (H0 : Hp) (η9 : Et) (st9 : Sr) (ys : List P) (σ : St) (H : Hp) : Prop :=
  ∃ Z φ η st, RS K Z φ st H ∧ Slots K Z φ η σ ∧ Step Z0 φ0 H0 Z φ H ∧ loopD g b ys η st = .ok (.nx, η9, st9) ∧ ∀ (Z' : Hp) (φ' : List Addr) (H' : Hp) (σ' : St), RS K Z' φ' st9 H' → Slots K Z' φ' η9 σ' → Step Z0 φ0 H0 Z' φ' H' → E σ' H'
theorem LkI.turn {η9 : Et} {st9 : Sr} {p : P} {ys : List P} {σ : St} {H : Hp} {v : V} {D : Ends} (hE : D.nx = E) (h : LkI K g b E Z0 φ0 H0 η9 st9 (p :: ys) σ H) (hv : ∀ Z, Rep K Z p v) :
    tG K g v σ H (fun σ2 H2 => tS K W b { D with nx := LkI K g b E Z0 φ0 H0 η9 st9 ys, ct := LkI K g b E Z0 φ0 H0 η9 st9 ys, bk := D.nx } σ2 H2) := by
  obtain ⟨Z, φ, η, st, rs, sl, s, he, hc⟩ := h
  unfold loopD at he
  split at he
  · cases he
  · rename_i η1 e1
    refine ⟨Z, φ, η, st, .fz p, rs, sl, hv Z, η1, e1, fun σ2 sl2 => ⟨Z, φ, η1, st, rs, sl2, ?_⟩⟩
    cases e2 : b η1 st with
    | exc => rw [e2] at he; cases he
    | stuck => rw [e2] at he; cases he
    | ok r =>
      rw [e2] at he
      obtain ⟨fl, η2, st2⟩ := r
      intro Z' φ' H' t rs'
      cases fl with
      | nx => exact fun σ' sl' => ⟨Z', φ', η2, st2, rs', sl', s.trans t, he, hc⟩
      | ct => exact fun σ' sl' => ⟨Z', φ', η2, st2, rs', sl', s.trans t, he, hc⟩
      | bk =>
        have he' : R.ok (Fl.nx, η2, st2) = R.ok (Fl.nx, η9, st9) := he
        cases he'
        intro σ' sl'
        show D.nx σ' H'
        rw [hE]
        exact hc Z' φ' H' σ' rs' sl' (s.trans t)
      | rt d => cases he
theorem LkI.done {η9 : Et} {st9 : Sr} {σ : St} {H : Hp} (h : LkI K g b E Z0 φ0 H0 η9 st9 [] σ H) : E σ H := by
  obtain ⟨Z, φ, η, st, rs, sl, s, he, hc⟩ := h
  cases he
  exact hc Z φ H σ rs sl s
end
end M
end
section
set_option Elab.async false
set_option linter.all false
namespace Kd
def hgo : List Int → List Int → List Int
  | acc, [] => acc
  | acc, x :: r => if x ∈ acc then hgo acc r else hgo (acc ++ [x]) r
def heads (l : List Int) : List Int := hgo [] l
theorem hgo_sub : ∀ (l acc : List Int) {x : Int}, x ∈ acc → x ∈ hgo acc l
  | [], acc, x, h => h
  | y :: l, acc, x, h => by
    unfold hgo
    split
    · exact hgo_sub l acc h
    · exact hgo_sub l _ (List.mem_append_left _ h)
theorem hgo_mem : ∀ (l acc : List Int) {x : Int}, x ∈ l → x ∈ hgo acc l
  | y :: l, acc, x, h => by
    unfold hgo
    rcases List.mem_cons.mp h with e | h
    · subst e
      split
      · rename_i hm; exact hgo_sub l acc hm
      · exact hgo_sub l _ (by simp)
    · split
      · exact hgo_mem l acc h
      · exact hgo_mem l _ h
end Kd
end
section
set_option Elab.async false
set_option linter.all false
namespace Kd
def sortI (l : List Int) : List Int := l.mergeSort fun a b => decide (a ≤ b)
theorem sortI_perm (l : List Int) : (sortI l).Perm l := List.mergeSort_perm _ _
theorem sortI_sorted (l : List Int) : (sortI l).Pairwise (· ≤ ·) := by
  have h := List.pairwise_mergeSort (le := fun a b : Int => decide (a ≤ b)) (fun a b c h1 h2 => by simp at *; omega) (fun a b => by simp; omega) l
  exact h.imp fun {a b} q => of_decide_eq_true q
theorem sorted_eq {l m : List Int} (hl : l.Pairwise (· ≤ ·)) (hm : m.Pairwise (· ≤ ·)) (p : l.Perm m) : l = m := p.eq_of_pairwise (fun a b _ _ h1 h2 => Int.le_antisymm h1 h2) hl hm
theorem sortI_eq {l m : List Int} (p : l.Perm m) : sortI l = sortI m := sorted_eq (sortI_sorted l) (sortI_sorted m) (((sortI_perm l).trans p).trans (sortI_perm m).symm)
end Kd
end
section
set_option Elab.async false
set_option linter.all false
namespace Kd
theorem hgo_nodup : ∀ (l acc : List Int), acc.Nodup → (hgo acc l).Nodup
  | [], acc, h => h
  | x :: l, acc, h => by
    by_cases hx : x ∈ acc
    · rw [hgo, if_pos hx]; exact hgo_nodup l acc h
    · rw [hgo, if_neg hx]; exact hgo_nodup l _ (List.nodup_append.mpr ⟨h, by simp, fun a ha b hb => by simp at hb; subst hb; rintro rfl; exact hx ha⟩)
theorem hgo_of : ∀ (l acc : List Int) {x : Int}, x ∈ hgo acc l → x ∈ acc ∨ x ∈ l
  | [], acc, x, h => .inl h
  | y :: l, acc, x, h => by
    by_cases hy : y ∈ acc
    · rw [hgo, if_pos hy] at h
      rcases hgo_of l acc h with h | h
      · exact .inl h
      · exact .inr (List.mem_cons_of_mem _ h)
    · rw [hgo, if_neg hy] at h
      rcases hgo_of l _ h with h | h
      · rcases List.mem_append.mp h with h | h
        · exact .inl h
        · simp at h; subst h; exact .inr List.mem_cons_self
      · exact .inr (List.mem_cons_of_mem _ h)
theorem mem_heads {l : List Int} {x : Int} : x ∈ heads l ↔ x ∈ l := ⟨fun h => by rcases hgo_of l [] h with h | h; cases h; exact h, fun h => hgo_mem l [] h⟩
theorem heads_nodup (l : List Int) : (heads l).Nodup := hgo_nodup l [] List.nodup_nil
theorem heads_perm {l m : List Int} (h : ∀ x, x ∈ l ↔ x ∈ m) : (heads l).Perm (heads m) := (List.perm_ext_iff_of_nodup (heads_nodup l) (heads_nodup m)).mpr fun x => by rw [mem_heads, mem_heads]; exact h x
def setI (l : List Int) : List Int := sortI (heads l)
theorem mem_sortI {l : List Int} {x : Int} : x ∈ sortI l ↔ x ∈ l := (sortI_perm l).mem_iff
theorem mem_setI {l : List Int} {x : Int} : x ∈ setI l ↔ x ∈ l := mem_sortI.trans mem_heads
end Kd
end
section
set_option Elab.async false
set_option linter.all false
set_option maxRecDepth 100000
set_option maxHeartbeats 0
namespace M
open PySem PySem.Spec PyProof.Rows L2
theorem asc_uniq : ∀ {l m : List Int}, l.Pairwise (· < ·) → m.Pairwise (· < ·) → (∀ x, x ∈ l ↔ x ∈ m) → l = m := fun hl hm h =>
  Kd.sorted_eq (hl.imp Int.le_of_lt) (hm.imp Int.le_of_lt) ((List.perm_ext_iff_of_nodup (hl.imp Int.ne_of_lt) (hm.imp Int.ne_of_lt)).mpr h)
theorem setI_lt (l : List Int) : (Kd.setI l).Pairwise (· < ·) := by
  have h1 : (Kd.setI l).Pairwise (· ≤ ·) := Kd.sortI_sorted _
  have h2 : (Kd.setI l).Nodup := (Kd.sortI_perm _).nodup_iff.mpr (Kd.heads_nodup l)
  exact (List.pairwise_and_iff.mpr ⟨h1, h2⟩).imp fun ⟨a, b⟩ => by omega
end M
end
section
set_option Elab.async false
set_option linter.all false
set_option maxRecDepth 100000
set_option maxHeartbeats 0
namespace M
open PySem L2
theorem rep_strD {K : PySem.W.Frag} {Z : Hp} {φ : List Addr} {y : Str} : RepD K Z φ (.fz (.str y)) (.str y) := by
  show Rep K Z (.str y) (.str y)
  rw [Rep]
def ninSO (d e : D) (st : Sr) : R (D × Sr) := match d, e with
  | .fz (.str i), .fz (.str j) => .ok (.fz (.bl (!(!(PySem.Builtin.Str.occurrences j i 0 j.length 1).isEmpty))), st)
  | _, _ => .stuck
def dForS (f : DE) (g : DG) (b : DS) : DS := fun η st => (f η st).bind fun a => match a.1 with
  | .fz (.str x) => loopD g b (charsP x) η a.2
  | _ => .stuck
theorem for_str {x : Str} {g : TG} {tb : TS} {D : Ends} {σ : St} {H : Hp} (Pv : Nat → St → Hp → Prop) (h0 : Pv 0 σ H)
    (hs : ∀ (i : Nat) (c : Nat) σ H, x.cps[i]? = some c → Pv i σ H → g (.str ⟨#[c]⟩) σ H fun σ2 H2 => tb { D with nx := Pv (i + 1), ct := Pv (i + 1), bk := D.nx } σ2 H2) (hd : ∀ σ H, Pv x.cps.size σ H → D.nx σ H) :
    ∃ W : Nat → Nat → St → Hp → Prop, (∃ m, W 0 m σ H) ∧ ∀ i m σ H, W i m σ H →
      ((Its x).stop i H ∧ D.nx σ H) ∨ ((Its x).go i H ∧ ∃ N : St → Hp → Prop, (∀ σ' H', N σ' H' → ∃ m', m' < m ∧ W (i + 1) m' σ' H') ∧ ∀ v H', (Its x).yld i H v H' → g v σ H' fun σ2 H2 => tb { D with nx := N, ct := N, bk := D.nx } σ2 H2) := by
  refine ⟨fun i m σ H => m = x.cps.size - i ∧ i ≤ x.cps.size ∧ Pv i σ H, ⟨x.cps.size, by simp, Nat.zero_le _, h0⟩, ?_⟩
  rintro i m σ H ⟨rfl, hi, p⟩
  by_cases hlt : i < x.cps.size
  · refine .inr ⟨hlt, Pv (i + 1), fun σ' H' p' => ⟨x.cps.size - (i + 1), by omega, rfl, hlt, p'⟩, fun v H' y => ?_⟩
    obtain ⟨e, c, hc, ev⟩ := y
    subst e; subst ev
    exact hs i c σ _ hc p
  · have e : i = x.cps.size := by omega
    subst e
    exact .inl ⟨Nat.le_refl _, hd σ H p⟩
section
variable {X : Cx} {W : WX} {a b e l tg : Expr} {pos p2 : Pos} {f : DE} {g : DG} {bd : DS} {body : List Stmt}
theorem rep_blD {K : PySem.W.Frag} {Z : Hp} {φ : List Addr} {y : Bool} : RepD K Z φ (.fz (.bl y)) (.bl y) := by
  show Rep K Z (.bl y) (.bl y)
  rw [Rep]
theorem o_ninS : OpR X (compareOp .NotIn) (rM X.K W ninSO) := by
  intro pins s σ H x y v u Q I rx ry ⟨d, e, Z, φ, st, rs, rd, re, af⟩
  unfold ninSO at af
  split at af
  · rename_i i j
    obtain rfl := fz_str rd
    obtain rfl := fz_str re
    exact op_notin_str pins s σ H _ _ v u Q I rx ry ⟨i, j, rfl, rfl, af.here rs rep_blD⟩
  · exact af.elim
theorem ds_forS (hp : PassesOwn (model X.prog X.w) X.A X.env X.xe) (hc : X.calm = true) (hl : PE X l (tE X.K W f)) (hg : PG X tg (tG X.K g)) (hb : PSs X body (tS X.K W bd)) (hs : ∀ x, foldedSetIterable l X.env x = pure x := by intro _; rfl) :
    PS X (.For tg l body [] pos) (tS X.K W (dForS f g bd)) := by
  refine (ps_for hp hc (pi_str hl) hg hb hs).to fun D σ H hh => ?_
  obtain ⟨Z, φ, η, st, rs, sl, af⟩ := hh
  refine ⟨Z, φ, η, st, rs, sl, af.bind.mono fun a Z' φ' H' t g' rs' v r => ?_⟩
  split at g'
  · rename_i x ex
    rw [ex] at r
    obtain rfl := fz_str r
    refine ⟨x, rfl, ?_⟩
    refine for_str (x := x) (fun i σ' H' => LpI X.K W g bd D (fun _ => True) ((charsP x).drop i) σ' H') ⟨Z', φ', η, a.2, rs', sl.mono t, trivial, by rw [List.drop_zero]; exact g'⟩ (fun i c σ' H' hx hh => ?_) (fun σ' H' hh => ?_)
    · rw [drop_cons (charsP_at hx)] at hh
      exact hh.turn (fun _ _ _ _ => trivial) fun Z _ _ => by rw [Rep]
    · rw [← charsP_len, List.drop_length] at hh
      exact hh.done
  · exact g'.elim
theorem de_strG {x z : Str} (hm : ∃ t, X.mg x = some (.str z t)) (hg : Gl X x := by rfl) (hd : (x == ("__debug__" : Str)) = false := by decide) : PE X (.Name x pos) (tE X.K W (dK (.str z))) := by
  obtain ⟨t, hm⟩ := hm
  refine (pe_glob (v := .str z) hg hm ⟨t, rfl⟩ hd).to fun σ H Q h => ?_
  obtain ⟨Z, φ, η, st, rs, sl, af⟩ := h
  exact Af.here (show Af X.K W Z φ H (.ok (D.fz (.str z), st)) (GE X.K Q) from af) rs rep_strD
theorem de_intG {x : Str} {i : Int} (hm : ∃ t, X.mg x = some (.int i t)) (hg : Gl X x := by rfl) (hd : (x == ("__debug__" : Str)) = false := by decide) : PE X (.Name x pos) (tE X.K W (dK (.int i))) := by
  obtain ⟨t, hm⟩ := hm
  refine (pe_glob (v := .int i) hg hm ⟨t, rfl⟩ hd).to fun σ H Q h => ?_
  obtain ⟨Z, φ, η, st, rs, sl, af⟩ := h
  exact Af.here (show Af X.K W Z φ H (.ok (D.fz (.int i), st)) (GE X.K Q) from af) rs rep_int
end
end M
end
section
set_option Elab.async false
set_option linter.all false
set_option maxRecDepth 100000
set_option maxHeartbeats 0
namespace M
open PySem L2 PySem.Spec PyProof.Rows
def intsPL : List P → Option (List Int)
  | [] => some []
  | .int y :: ps => (intsPL ps).map fun ys => y :: ys
  | _ :: _ => none
theorem ints_rep {K : PySem.W.Frag} {Z : Hp} : ∀ {ps : List P} {ys : List Int} {vs : List V}, intsPL ps = some ys → Reps K Z ps vs → vs = ys.map V.int
  | [], ys, vs, h, r => by
    injection h with h
    subst h
    rw [Reps] at r
    exact r
  | p :: ps, ys, vs, h, r => by
    rw [Reps] at r
    obtain ⟨v, ws, rfl, r1, r2⟩ := r
    unfold intsPL at h
    split at h
    · rename_i e; cases e
    · rename_i y ps' e
      injection e with e1 e2
      subst e1; subst e2
      cases hs : intsPL ps with
      | none => rw [hs] at h; cases h
      | some zs =>
        rw [hs] at h
        injection h with h
        subst h
        rw [Rep] at r1
        subst r1
        rw [ints_rep hs r2]; rfl
    · cases h
def idxO (ys : List Int) (z : Int) : Option Nat := ys.findIdx? fun y => y == z
theorem flat_ints (ys : List Int) : (ys.map V.int).all flatV = true := by
  rw [List.all_map]
  exact List.all_eq_true.mpr fun _ _ => rfl
def indexLO (d : D) (ds : List D) (st : Sr) : R (D × Sr) := match peek st d, ds with
  | some (.lst ps), [.fz (.int z)] => (match intsPL ps with
    | some ys => (match idxO ys z with
      | some j => .ok (.fz (.int (j : Nat)), st)
      | none => .stuck)
    | none => .stuck)
  | _, _ => .stuck
def insertO (d : D) (ds : List D) (st : Sr) : R (D × Sr) := match d, ds with
  | .cell n, [.fz (.int i), .fz p] => (match st[n]? with
    | some (.lst xs) => if xs.length < szL ∧ 0 ≤ i ∧ i < 2 ^ 63 then .ok (.fz .non, st.set n (.lst (xs.take i.toNat ++ p :: xs.drop i.toNat))) else .stuck
    | _ => .stuck)
  | _, _ => .stuck
section
variable {X : Cx} {W : WX}
theorem m_indexL : MtR X "list.index" (rMM X.K W indexLO) := by
  intro pins s σ H x xs v us Q I rx rv ⟨d, ds, Z, φ, st, rs, rd, rds, af⟩
  unfold indexLO at af
  split at af
  · rename_i ps z e1
    obtain ⟨v1, rfl, r1⟩ := rds.one
    obtain rfl := fz_int r1
    split at af
    · rename_i ys hy
      split at af
      · rename_i j hj
        obtain ⟨b, vs, rfl, h2, h3⟩ := peek_pk rs e1 rd
        have hv := ints_rep hy h3
        subst hv
        obtain ⟨k1, k2⟩ := List.findIdx?_eq_some_iff_getElem.mp hj
        refine mt_index pins s σ H _ _ v us Q I rx rv ⟨b, ys.map V.int, .int z, j, .int z, rfl, rfl, SqL.of h2, rfl, flat_ints ys, ?_, ?_, fun m z' hm hz' => ?_, af.here rs rep_int⟩
        · rw [List.getElem?_map, List.getElem?_eq_getElem k1]
          have := k2.1
          rw [eq_of_beq this]; rfl
        · show (z == z) = true
          exact beq_self_eq_true z
        · rw [List.getElem?_map] at hz'
          have hm' : m < ys.length := by omega
          rw [List.getElem?_eq_getElem hm'] at hz'
          injection hz' with hz'
          subst hz'
          have := k2.2 m hm
          show (ys[m] == z) = false
          simpa using this
      · exact af.elim
    · exact af.elim
  · exact af.elim
theorem de_indexL {o e : Expr} {f : DE} {fs : DA} {apos cpos : Pos} (ho : PE X o (tE X.K W f)) (ha : PA X [e] (tA X.K W fs)) (hbase : attributeBase o "index" X.env (eval o X.env) = eval o X.env := by rfl)
    (hfew : ((backTo cpos (starEach (e :: []) X.env)).all (fun x => !x.1) && (backToKw cpos (keywordEach [] X.env)).all (fun x => x.1.isSome)
      && decide ((e :: ([] : List Expr)).length + ([] : List Keyword).length + (if ([] : List Keyword).isEmpty then 0 else 1) < 30)) = true := by rfl)
    (hline : (apos.endLine == cpos.line) = true := by rfl) (hs : starEach (e :: []) X.env = (false, eval e X.env) :: starEach [] X.env := by rfl) (hplain : (backTo cpos (starEach [] X.env)).any (·.1) = false := by rfl) :
    PE X (.Call (.Attribute o "index" apos) [e] [] cpos) (tE X.K W (dBM isLst indexLO f fs)) := de_bm isLst_ty PySem.F.plainAttrs_list PySem.F.slot_list_index PySem.F.type_list_index m_indexL ho ha hbase hfew hline hs hplain
theorem m_insert : MtR X "list.insert" (rMM X.K W insertO) := by
  intro pins s σ H x xs v us Q I rx rv ⟨d, ds, Z, φ, st, rs, rd, rds, af⟩
  unfold insertO at af
  split at af
  · rename_i n i p
    obtain ⟨w1, w2, rfl, r1, r2⟩ := rds.two
    obtain rfl := fz_int r1
    obtain ⟨a, ha, rfl⟩ := rd
    split at af
    · rename_i ys e2
      by_cases hc : ys.length < szL ∧ 0 ≤ i ∧ i < 2 ^ 63
      · rw [if_pos hc] at af
        obtain ⟨hz2, vs, h3, h4⟩ := rs.cells n a _ ha e2
        have hp : Rep X.K Z p w2 := r2
        refine mt_insert pins s σ H _ _ v us Q I rx rv ⟨a, vs, i, w2, rfl, rfl, h3, by rw [← h4.length, ← szL_eq]; exact hc.1, hc.2.1, hc.2.2, ?_⟩
        have h5 : Reps X.K Z (ys.take i.toNat ++ p :: ys.drop i.toNat) (vs.take i.toNat ++ [w2] ++ vs.drop i.toNat) := by
          rw [List.append_assoc]
          exact h4.take.append (Reps.cons hp h4.drop)
        obtain ⟨rs3, s3⟩ := rs.write (c := .lst (ys.take i.toNat ++ p :: ys.drop i.toNat)) (o := .lst (vs.take i.toNat ++ [w2] ++ vs.drop i.toNat)) ha hz2 ⟨hz2, _, upd_same, h5⟩ (fun _ _ z => by rw [h3] at z; cases z)
        exact af _ _ _ s3 rs3 _ rep_non
      · rw [if_neg hc] at af; exact af.elim
    · exact af.elim
  · exact af.elim
theorem de_insert {o e e2 : Expr} {f : DE} {fs : DA} {apos cpos : Pos} (ho : PE X o (tE X.K W f)) (ha : PA X [e, e2] (tA X.K W fs)) (hbase : attributeBase o "insert" X.env (eval o X.env) = eval o X.env := by rfl)
    (hfew : ((backTo cpos (starEach (e :: [e2]) X.env)).all (fun x => !x.1) && (backToKw cpos (keywordEach [] X.env)).all (fun x => x.1.isSome)
      && decide ((e :: [e2]).length + ([] : List Keyword).length + (if ([] : List Keyword).isEmpty then 0 else 1) < 30)) = true := by rfl)
    (hline : (apos.endLine == cpos.line) = true := by rfl) (hs : starEach (e :: [e2]) X.env = (false, eval e X.env) :: starEach [e2] X.env := by rfl) (hplain : (backTo cpos (starEach [e2] X.env)).any (·.1) = false := by rfl) :
    PE X (.Call (.Attribute o "insert" apos) [e, e2] [] cpos) (tE X.K W (dBM isLst insertO f fs)) := de_bm isLst_ty PySem.F.plainAttrs_list PySem.F.slot_list_insert PySem.F.type_list_insert m_insert ho ha hbase hfew hline hs hplain
end
end M
end
section
set_option Elab.async false
set_option linter.all false
set_option maxRecDepth 100000
set_option maxHeartbeats 0
namespace M
open PySem L2
open Classical in
noncomputable def lcC (n : Nat) (zs : List P) (i : Nat) (t : DT) (fe : DE) (η : Et) : List P → List P → Sr → R (List P × Sr)
  | [], acc, st => if st[n]? = some (.lst zs) then .ok (acc, st) else .stuck
  | x :: xs, acc, st => if st[n]? = some (.lst zs) then ((t (η.set i (some (.fz x))) st).bind fun a => if a.1 = true then (fe (η.set i (some (.fz x))) a.2).bind fun b => match toP b.2 b.1 with
      | some (p, st2) => if acc.length < szL then lcC n zs i t fe η xs (acc ++ [p]) st2 else .stuck
      | none => .stuck
    else lcC n zs i t fe η xs acc a.2) else .stuck
/-- a list cell that is not frozen -/
def cellL (st : Sr) : D → Option (Nat × List P)
  | .cell n => match st[n]? with
    | some (.lst xs) => some (n, xs)
    | _ => none
  | _ => none
noncomputable def dLcCZ (f : DE) (i : Nat) (t : DT) (fe : DE) : DE := fun η st => (f η st).bind fun a => match cellL a.2 a.1 with
  | some (n, xs) => lcZ (lcC n xs i t fe η xs [] a.2)
  | none => match toP a.2 a.1 with
    | some (p, st') => match itemsP p with
      | some xs => lcZ (lcD i t fe η xs [] st')
      | none => .stuck
    | none => .stuck
theorem lcC_at {n : Nat} {zs ys acc : List P} {i : Nat} {t : DT} {fe : DE} {η : Et} {st : Sr} {r : List P × Sr} (h : lcC n zs i t fe η ys acc st = .ok r) : st[n]? = some (.lst zs) := by
  cases ys with
  | nil =>
    unfold lcC at h
    split at h
    · assumption
    · cases h
  | cons x ys =>
    unfold lcC at h
    split at h
    · assumption
    · cases h
section
variable {X : Cx} {W : WX}
def LcKC (K : PySem.W.Frag) (W : WX) (n : Nat) (ad : Addr) (zs : List P) (i : Nat) (t : DT) (fe : DE) (η : Et) (Q : VK) (σ : St) (Z0 : Hp) (φ0 : List Addr) (H0 : Hp) (p : Addr) (ys : List P) (H : Hp) : Prop :=
  ∃ Z φ st acc, RS K Z φ st H ∧ Slots K Z φ η σ ∧ (φ[n]? = some ad ∧ st[n]? = some (.lst zs)) ∧ Mk1 K Z φ H p acc ∧ Step Z0 φ0 H0 Z φ H ∧ Af K W Z0 φ0 H0 (lcZ (lcC n zs i t fe η ys acc st)) (GE K Q)
variable {K : PySem.W.Frag} {n : Nat} {ad : Addr} {zs : List P} {i : Nat} {t : DT} {fe : DE} {η : Et} {Q : VK} {σ : St} {Z0 H0 : Hp} {φ0 : List Addr} {p : Addr}
theorem LcKC.done {H : Hp} (h0 : H0 p = none) (h : LcKC K W n ad zs i t fe η Q σ Z0 φ0 H0 p [] H) : Q (.ref p) H := by
  obtain ⟨Z, φ, st, acc, rs, sl, ex, m, s, af⟩ := h
  obtain ⟨vs, h1, h2⟩ := m.at_
  have af2 : Af K W Z0 φ0 H0 (.ok (.fz (.lst acc), st)) (GE K Q) := by unfold lcC at af; rw [if_pos ex.2] at af; exact af
  have sz : Same Z (upd Z p (.lst vs)) := fun b u hb => by rw [upd_ne (by rintro rfl; rw [m.zn] at hb; cases hb)]; exact hb
  refine af2 (upd Z p (.lst vs)) φ H ⟨s.hz.trans sz, s.pre, s.fr, fun b hb => ?_, s.up, s.lk⟩ ⟨fun b u hb => ?_, rs.len, rs.nd, fun j b c hj hc => ?_, rs.tb, fun b ps z => ?_⟩ (.ref p) ?_
  · by_cases q : b = p
    · subst q; exact .inr (.inl (.of h0))
    · rw [upd_ne q] at hb; exact s.zn b hb
  · by_cases q : b = p
    · subst q; rw [upd_same] at hb; cases hb; exact h1
    · rw [upd_ne q] at hb; exact rs.same b u hb
  · have nb : b ≠ p := by rintro rfl; exact m.out (List.mem_of_getElem? hj)
    exact (rs.cells j b c hj hc).keep sz ⟨[], by simp⟩ (fun q => by rw [upd_ne nb]; exact (rs.cells j b c hj hc).free q) fun u hu _ => hu
  · by_cases q : b = p
    · subst q; rw [upd_same] at z; cases z
    · rw [upd_ne q] at z; exact rs.zd b ps z
  · show Rep _ _ _ _
    rw [Rep]
    exact ⟨p, vs, rfl, upd_same, h2.mono sz⟩
theorem LcKC.turn (h0 : H0 p = none) {x : P} {ys : List P} {H : Hp} {v : V} (h : LcKC K W n ad zs i t fe η Q σ Z0 φ0 H0 p (x :: ys) H) (hv : ∀ Z φ st, RS K Z φ st H → φ[n]? = some ad → st[n]? = some (.lst zs) → Rep K Z x v) :
    tT K W0 t (σ.set i (some v)) H (fun b H3 => if b = true then tE K W0 fe (σ.set i (some v)) H3 (fun y H4 => ∃ acc, H4 p = some (.lst acc) ∧ acc.length < sizeLine ∧ LcKC K W n ad zs i t fe η Q σ Z0 φ0 H0 p ys (upd H4 p (.lst (acc ++ [y])))) else LcKC K W n ad zs i t fe η Q σ Z0 φ0 H0 p ys H3) := by
  obtain ⟨Z, φ, st, acc, rs, sl, ex, m, s, af⟩ := h
  have slv : Slots K Z φ (η.set i (some (.fz x))) (σ.set i (some v)) := sl.set (hv Z φ st rs ex.1 ex.2)
  refine ⟨Z, φ, _, st, rs, slv, ?_⟩
  obtain ⟨⟨acc', st'⟩, he⟩ := lcZ_some af
  have he0 := he
  unfold lcC at he
  rw [if_pos ex.2] at he
  cases e1 : t (η.set i (some (.fz x))) st with
  | exc => rw [e1] at he; cases he
  | stuck => rw [e1] at he; cases he
  | ok a =>
    rw [e1] at he
    intro Z1 φ1 H1 s1 rs1
    have he1 : (if a.1 = true then (fe (η.set i (some (.fz x))) a.2).bind fun b => match toP b.2 b.1 with
      | some (p, st2) => if acc.length < szL then lcC n zs i t fe η ys (acc ++ [p]) st2 else .stuck
      | none => .stuck
    else lcC n zs i t fe η ys acc a.2) = .ok (acc', st') := he
    have m1 := m.step s1
    by_cases ha : a.1 = true
    · rw [if_pos ha] at he1 ⊢
      refine ⟨Z1, φ1, _, a.2, rs1, slv.mono s1, ?_⟩
      cases e2 : fe (η.set i (some (.fz x))) a.2 with
      | exc => rw [e2] at he1; cases he1
      | stuck => rw [e2] at he1; cases he1
      | ok b =>
        rw [e2] at he1
        intro Z2 φ2 H2 s2 rs2 y ry
        have he2 : (match toP b.2 b.1 with
          | some (p, st2) => if acc.length < szL then lcC n zs i t fe η ys (acc ++ [p]) st2 else .stuck
          | none => .stuck) = .ok (acc', st') := he1
        have m2 := m1.step s2
        obtain ⟨vs, h1, h2⟩ := m2.at_
        cases e3 : toP b.2 b.1 with
        | none => rw [e3] at he2; cases he2
        | some pr =>
          obtain ⟨q, st3⟩ := pr
          rw [e3] at he2
          dsimp only at he2
          split at he2
          · rename_i hz
            obtain ⟨Z3, f3, rs3, r3⟩ := toP_ok rs2 e3 ry
            have m3 := m2.step f3.step
            obtain ⟨rs4, m4⟩ := m3.push rs3 h1 r3
            have s3 := ((s.trans s1).trans s2).trans f3.step
            refine ⟨vs, h1, by rw [← h2.length, ← szL_eq]; exact hz, Z3, φ2, st3, acc ++ [q], rs4, ((sl.mono s1).mono s2).mono f3.step, ⟨by obtain ⟨psi, rfl⟩ := ((s1.trans s2).trans f3.step).app; rw [List.getElem?_append_left (List.getElem?_eq_some_iff.mp ex.1).1]; exact ex.1, lcC_at he2⟩, m4, ?_, ?_⟩
            · refine ⟨s3.hz, s3.pre, fun b o hb hn ht => ?_, s3.zn, fun b hb => ?_, fun b q u hb => by rw [upd_ne (by rintro rfl; rw [h0] at hb; cases hb)]; exact s3.lk b q u hb⟩
              · rw [upd_ne]
                · exact s3.fr b o hb hn ht
                · rintro rfl
                  rw [h0] at hb; cases hb
              · by_cases q : b = p
                · subst q; exact .of h0
                · exact s3.up b fun o ho => hb o (by rw [upd_ne q]; exact ho)
            · rw [he2]; rw [he0] at af; exact af
          · cases he2
    · rw [if_neg ha] at he1 ⊢
      exact ⟨Z1, φ1, a.2, acc, rs1, sl.mono s1, ⟨by obtain ⟨psi, rfl⟩ := s1.app; rw [List.getElem?_append_left (List.getElem?_eq_some_iff.mp ex.1).1]; exact ex.1, lcC_at he1⟩, m1, s.trans s1, by rw [he1]; rw [he0] at af; exact af⟩
end
section
variable {X : Cx} {W : WX} {elt iter : Expr} {scope : Scope} {x : Str} {i : Nat} {tpos pos : Pos} {ifs : List Expr} {f fe : DE} {t : DT}
theorem lcC_read {n : Nat} {ad : Addr} {zs : List P} {D : Addr} {σ : St} {η : Et} {H Z : Hp} {φ : List Addr} {st : Sr} {xs : List P} {Q : VK} (hD : H D = none) (rs : RS X.K Z φ st H) (sl : Slots X.K Z φ η σ) (ex : φ[n]? = some ad ∧ st[n]? = some (.lst zs)) (af : Af X.K W Z φ H (lcZ (lcC n zs i t fe η xs [] st)) (GE X.K Q)) :
    LcKC X.K W n ad zs i t fe η Q σ Z φ H D xs (upd H D (.lst [])) := by
  have hz : Z D = none := rs.same.free hD
  have na : D ∉ φ := fun hm => by obtain ⟨u, hu⟩ := rs.some_ hm; rw [hD] at hu; cases hu
  refine ⟨Z, φ, st, [], ⟨fun b u hb => ?_, rs.len, rs.nd, fun j b c hj hc => ?_, tabs_upd rs.tb (fun u hu => by rw [hD] at hu; cases hu), rs.zd⟩, sl, ex, ⟨na, hz, [], upd_same, .nil⟩, ⟨Same.refl _, ⟨[], by simp, by simp⟩, fun b u hb hn _ => ?_, fun b hb => .inl hb, fun b hb => ?_, fun b q u hb => by rw [upd_ne (by rintro rfl; rw [hD] at hb; cases hb)]; exact hb⟩, af⟩
  · rw [upd_ne (by rintro rfl; rw [hz] at hb; cases hb)]; exact rs.same b u hb
  · have nb : b ≠ D := by rintro rfl; exact na (List.mem_of_getElem? hj)
    exact (rs.cells j b c hj hc).keep (Same.refl _) ⟨[], by simp⟩ (fun q => (rs.cells j b c hj hc).free q) fun u hu _ => by rw [upd_ne nb]; exact hu
  · rw [upd_ne (by rintro rfl; rw [hD] at hb; cases hb)]; exact hb
  · by_cases q : b = D
    · subst q; exact .of hD
    · exact fun o ho => hb o (by rw [upd_ne q]; exact ho)
theorem lc_listC {K : PySem.W.Frag} {a : Addr} {m0 : Nat} {g : TG} {tt : TT} {te : TE} {vs : List Nat} {σ : St} {H1 : Hp} {D : Addr} {Qd : Hp → Prop} (Pv : Nat → Hp → Prop) (h0 : Pv 0 (upd H1 D (.lst []))) (hl : ∀ i H, i ≤ m0 → Pv i H → ∃ xs, SqL K H a xs ∧ xs.length = m0)
    (hs : ∀ i x H, i < m0 → (∀ xs, SqL K H a xs → xs[i]? = some x) → Pv i H → g x (wipe σ vs) H fun σ2 H2 => wipe σ2 vs = wipe σ vs ∧ tt σ2 H2 fun b H3 =>
      if b = true then te σ2 H3 fun y H4 => ∃ acc, H4 D = some (.lst acc) ∧ acc.length < sizeLine ∧ Pv (i + 1) (upd H4 D (.lst (acc ++ [y]))) else Pv (i + 1) H3) (hd : ∀ H, Pv m0 H → Qd H) :
    ∃ W : Nat → Nat → Hp → Prop, (∃ m, W 0 m (upd H1 D (.lst []))) ∧ ∀ i m H, W i m H →
      ((Itl K a).stop i H ∧ Qd H) ∨ ((Itl K a).go i H ∧ ∃ Nx : Hp → Prop, (∀ H', Nx H' → ∃ m', m' < m ∧ W (i + 1) m' H') ∧ ∀ x H', (Itl K a).yld i H x H' → g x (wipe σ vs) H' fun σ2 H2 => wipe σ2 vs = wipe σ vs ∧ tt σ2 H2 fun b H3 =>
        if b = true then te σ2 H3 fun y H4 => ∃ acc, H4 D = some (.lst acc) ∧ acc.length < sizeLine ∧ Nx (upd H4 D (.lst (acc ++ [y]))) else Nx H3) := by
  refine ⟨fun i m H => m = m0 - i ∧ i ≤ m0 ∧ Pv i H, ⟨m0, by simp, Nat.zero_le _, h0⟩, ?_⟩
  rintro i m H ⟨rfl, hi, p⟩
  obtain ⟨xs, q, hz⟩ := hl i H hi p
  by_cases hlt : i < m0
  · refine .inr ⟨⟨xs, xs[i]'(by omega), q, by simp [hz, hlt]⟩, Pv (i + 1), fun H' p' => ⟨m0 - (i + 1), by omega, rfl, hlt, p'⟩, fun x H' y => ?_⟩
    obtain ⟨e, y⟩ := y
    subst e
    exact hs i x _ hlt y p
  · have e : i = m0 := by omega
    subst e
    exact .inl ⟨⟨xs, q, by omega⟩, hd H p⟩
theorem lcCZ_to {σ : St} {H : Hp} {Q : VK} (hh : tE X.K W (dLcCZ f i t fe) σ H Q) :
    tLc (fun σ H R => tE X.K W f σ H fun x H1 => ∃ a, x = .ref a ∧ (((∃ xs, SqL X.K H1 a xs) ∧ R (Itl X.K a) H1) ∨ ((∃ xs, SqT X.K H1 a xs) ∧ R (Itt X.K a) H1))) (gName i) (tT X.K W0 t) (tE X.K W0 fe) [i] σ H Q := by
  obtain ⟨Z, φ, η, st, rs, sl, af⟩ := hh
  refine ⟨Z, φ, η, st, rs, sl, af.bind.mono fun a Z' φ' H' t' g' rs' v r => ?_⟩
  cases ec : cellL a.2 a.1 with
  | some nx =>
    obtain ⟨n, xs⟩ := nx
    rw [ec] at g'
    dsimp only at g'
    obtain ⟨en, e1⟩ : a.1 = .cell n ∧ a.2[n]? = some (.lst xs) := by
      unfold cellL at ec
      split at ec
      · rename_i m em
        split at ec
        · rename_i ys ey; cases ec; exact ⟨em, ey⟩
        · cases ec
      · cases ec
    rw [en] at r
    obtain ⟨ad, had, rfl⟩ := r
    obtain ⟨vs0, q0, r0⟩ := cell_sq rs' had e1
    refine ⟨ad, rfl, .inl ⟨⟨vs0, q0⟩, fun D hD => ?_⟩⟩
    refine lc_listC (K := X.K) (a := ad) (m0 := xs.length) (Qd := fun H => Q (.ref D) H) (fun j H => LcKC X.K W n ad xs i t fe η Q σ Z' φ' H' D (xs.drop j) H) (by rw [List.drop_zero]; exact lcC_read hD rs' (sl.mono t') ⟨had, e1⟩ g') (fun j H _ hh => ?_) (fun j x H hj hx hh => ?_) (fun H hh => ?_)
    · obtain ⟨Z3, φ3, st3, _, rs3, _, ⟨hn3, hs3⟩, _⟩ := hh
      obtain ⟨vs, q, r⟩ := cell_sq rs3 hn3 hs3
      exact ⟨vs, q, r.length.symm⟩
    · rw [drop_cons (List.getElem?_eq_getElem hj)] at hh
      refine ⟨wipe1 _ _ _, ?_⟩
      rw [wipe1s]
      refine hh.turn hD fun Z4 φ4 st4 rs4 hn4 hs4 => ?_
      obtain ⟨vs, q, r⟩ := cell_sq rs4 hn4 hs4
      obtain ⟨v, hv, rv⟩ := r.get (List.getElem?_eq_getElem hj)
      rw [hx vs q] at hv; cases hv; exact rv
    · rw [List.drop_length] at hh
      exact hh.done hD
  | none =>
    rw [ec] at g'
    dsimp only at g'
    split at g'
    · rename_i p st' e1
      split at g'
      · rename_i xs e2
        obtain ⟨Z2, f2, rs2, q2⟩ := toP_ok rs' e1 r
        obtain ⟨a', vs, rfl, h2, h3⟩ := pk_itemsZ q2 e2
        have af2 := g'.later f2.step
        have sl2 := (sl.mono t').mono f2.step
        rcases h2 with h2 | h2
        · refine ⟨a', rfl, .inl ⟨⟨vs, rs2.same.seq h2⟩, fun D hD => ?_⟩⟩
          refine lc_list (K := X.K) (a := a') (xs := vs) (Qd := fun H => Q (.ref D) H) (fun j H => LcJ X.K W i t fe η Q σ Z2 φ' H' D (fun Z => SqL X.K Z a' vs ∧ Reps X.K Z xs vs) (xs.drop j) H) (by rw [List.drop_zero]; exact lcZ_read hD rs2 sl2 ⟨h2, h3⟩ af2) (fun j H _ hh => ?_) (fun j x H hx hh => ?_) (fun H hh => ?_)
          · obtain ⟨Z3, _, _, _, rs3, _, ⟨e3, _⟩, _⟩ := hh; exact rs3.same.seq e3
          · have hl : j < xs.length := by rw [h3.length]; exact (List.getElem?_eq_some_iff.mp hx).1
            rw [drop_cons (List.getElem?_eq_getElem hl)] at hh
            refine ⟨wipe1 _ _ _, ?_⟩
            rw [wipe1s]
            refine hh.turn hD (fun Z Z' s ⟨e1, e2⟩ => ⟨s.seq e1, e2.mono s⟩) fun Z _ ⟨_, e2⟩ => ?_
            obtain ⟨v, hv, rv⟩ := e2.get (List.getElem?_eq_getElem hl)
            rw [hx] at hv; cases hv; exact rv
          · rw [← h3.length, List.drop_length] at hh
            exact hh.done hD
        · refine ⟨a', rfl, .inr ⟨⟨vs, same_sqT rs2.same h2⟩, fun D hD => ?_⟩⟩
          refine lc_tup (K := X.K) (a := a') (xs := vs) (Qd := fun H => Q (.ref D) H) (fun j H => LcJ X.K W i t fe η Q σ Z2 φ' H' D (fun Z => SqT X.K Z a' vs ∧ Reps X.K Z xs vs) (xs.drop j) H) (by rw [List.drop_zero]; exact lcZ_read hD rs2 sl2 ⟨h2, h3⟩ af2) (fun j H _ hh => ?_) (fun j x H hx hh => ?_) (fun H hh => ?_)
          · obtain ⟨Z3, _, _, _, rs3, _, ⟨e3, _⟩, _⟩ := hh; exact same_sqT rs3.same e3
          · have hl : j < xs.length := by rw [h3.length]; exact (List.getElem?_eq_some_iff.mp hx).1
            rw [drop_cons (List.getElem?_eq_getElem hl)] at hh
            refine ⟨wipe1 _ _ _, ?_⟩
            rw [wipe1s]
            refine hh.turn hD (fun Z Z' s ⟨e1, e2⟩ => ⟨same_sqT s e1, e2.mono s⟩) fun Z _ ⟨_, e2⟩ => ?_
            obtain ⟨v, hv, rv⟩ := e2.get (List.getElem?_eq_getElem hl)
            rw [hx] at hv; cases hv; exact rv
          · rw [← h3.length, List.drop_length] at hh
            exact hh.done hD
      · exact g'.elim
    · exact g'.elim
theorem de_lcCZ (hc : X.calm = true) (hN : X.N.Nodup) (hl : PE X iter (tE X.K W f)) (ok : BlkOk X.N X.env.scope scope [(x, i)])
    (hg : ∀ (s : Shared) (H : Hp) (C : Addr) (cl : List (Str × Addr)) (fp : List Addr), PG (X.blk s H scope (compEnvC scope cl C X.env) fp) (.Name x tpos) (gName i)) (ht : ∀ (s : Shared) (H : Hp) (C : Addr) (cl : List (Str × Addr)) (fp : List Addr), PTs (X.blk s H scope (compEnvC scope cl C X.env) fp) ifs (tT X.K W0 t))
    (he : ∀ (s : Shared) (H : Hp) (C : Addr) (cl : List (Str × Addr)) (fp : List Addr), PE (X.blk s H scope (compEnvC scope cl C X.env) fp) elt (tE X.K W0 fe)) (hs : ∀ x, foldedSetIterable iter X.env x = pure x := by intro _; rfl) :
    PE X (.ListComp elt [⟨.Name x tpos, iter, ifs, 0⟩] scope pos) (tE X.K W (dLcCZ f i t fe)) := (pe_lc (own := [(x, i)]) hc hN (pi_seq hl) ok hg ht he hs).to fun σ H Q hh => lcCZ_to hh
end
end M
end
section
set_option Elab.async false
set_option linter.all false
set_option maxRecDepth 100000
set_option maxHeartbeats 0
namespace M
open PySem PySem.Spec PyProof.Rows L2
def tupP' : P → Option (List P)
  | .tup xs => some xs
  | _ => none
def sortSetTO (d : D) (st : Sr) : R (D × Sr) := match (peek st d).bind tupP' with
  | some ps => (match intsP ps with
    | some is => if is.length < 64 then .ok (.fz (.lst ((Kd.setI is).map P.int)), st) else .stuck
    | none => .stuck)
  | none => .stuck
theorem tupP_at {Z H : Hp} {φ : List Addr} {st : Sr} {K : PySem.W.Frag} {d : D} {v : V} {ps : List P} {is : List Int} (rs : RS K Z φ st H) (rd : RepD K Z φ d v) (e1 : (peek st d).bind tupP' = some ps) (e2 : intsP ps = some is) : ∃ la, v = .ref la ∧ SqT K H la (is.map V.int) := by
  obtain ⟨pd, e6, e7⟩ := Option.bind_eq_some_iff.mp e1
  obtain ⟨la, lvs, hv, hls, hli⟩ : ∃ la lvs, v = .ref la ∧ SqT K H la lvs ∧ Reps K Z ps lvs := by
    have pk := peek_pk rs e6 rd
    cases pd with
    | tup ys => cases e7; obtain ⟨a, vs, h1, h2, h3⟩ := pk; exact ⟨a, vs, h1, h2, h3⟩
    | _ => cases e7
  rw [intsP_eq e2] at hli
  have hvs := reps_ints hli
  subst hvs
  exact ⟨la, hv, hls⟩
section
variable {X : Cx} {W : WX} {a : Expr} {f : DE} {p p2 q pos : Pos}
theorem de_sortSetT (hg : Gl X "sorted") (hm : X.mg "sorted" = none) (hg2 : Gl X "set") (hm2 : X.mg "set" = none) (ha : PE X a (tE X.K W f)) (hc : X.calm = true := by rfl)
    (na : starEach [a] X.env = (false, eval a X.env) :: starEach [] X.env := by rfl) : PE X (.Call (.Name "sorted" p) [.Call (.Name "set" p2) [a] [] q] [] pos) (tE X.K W (dUn sortSetTO f)) := by
  refine ⟨fun pins s σ H Q I h => ?_⟩
  obtain ⟨Z, φ, η, st, rs, sl, af⟩ := h
  refine Call_ (ld_blt I hg hm bt_sorted ?_)
  refine PyProof.Rows.callWith_builtin1 (PyProof.Rows.args_cons ?_ rfl) rfl rfl
  refine Call_ (ld_blt I hg2 hm2 PyProof.Rows.boot_set ?_)
  refine PyProof.Rows.callWith_type1 (PyProof.Rows.args_cons (thn (ha.run pins s σ H (fun v H1 => ∃ d Z φ st, RS X.K Z φ st H1 ∧ RepD X.K Z φ d v ∧ Af X.K W Z φ H1 (sortSetTO d st) (GE X.K Q)) I ⟨Z, φ, η, st, rs, sl, af.bind.mono fun a Z' φ' H' t g' rs' v r => ⟨a.1, Z', φ', a.2, rs', r, g'⟩⟩) fun v s1 ⟨x, H1, I1, r1, d, Z1, φ1, st1, rs1, rd1, af1⟩ => PyProof.Rows.args_nil ?_) na) na rfl
  unfold sortSetTO at af1
  split at af1
  rotate_left
  · exact af1.elim
  rename_i ps e1
  split at af1
  rotate_left
  · exact af1.elim
  rename_i is e2
  by_cases hlim : is.length < 64
  · rw [if_pos hlim] at af1
    obtain ⟨la, rfl, hls⟩ := tupP_at rs1 rd1 e1 e2
    obtain rfl : v = Value.ref la := r1
    obtain ⟨its, r, pl, hz⟩ := I1.tuple hls
    refine call_set_tupI is (I1.ok.hd hc) pl (by simpa using r.ints) (by unfold scanBound; omega) fun h' tk c hS hcl hk => ?_
    refine PyProof.Rows.args_nil ?_
    have I2 : Inv X pins σ H1 { s1 with heap := h', toks := tk } := I1.kept fun b o e => hk b o e
    have hS2 : SetR X.w ({ s1 with heap := h', toks := tk } : Shared).heap s1.heap.objs.size (fun j => decide (j ∈ is)) c := hS
    generalize ({ s1 with heap := h', toks := tk } : Shared) = s2 at I2 hS2 ⊢
    refine sorted_set hS2 (I2.ok.hd hc) (by omega) fun s' p out c' ns k g o hp hg' hi hs hm hl => ?_
    have hn : ns = Kd.setI is := asc_uniq hs (setI_lt is) fun x => by rw [hm x, Kd.mem_setI, decide_eq_true_iff]
    subst hn
    have hlen : ((Kd.setI is).map V.int).length ≤ sizeLine := by rw [List.length_map, hl, sizeLine_eq]; omega
    have hnn : H1 p = none := I2.hok.fresh hp
    have J : Inv X pins σ (upd H1 p (.lst ((Kd.setI is).map V.int))) { s2 with heap := s'.heap, gens := s'.gens, drawn := s'.drawn, toks := s'.toks } :=
      I2.call (ch := []) (Un.laid k hp hnn) (I2.hok.laid k hp ⟨hlen, out.toList, c', vals_of_ints hi, hg'⟩) (by rw [g]; exact I2.bare) (fun _ z => nomatch z)
    have e : s' = { s2 with heap := s'.heap, gens := s'.gens, drawn := s'.drawn, toks := s'.toks } := by
      cases s'
      cases s2
      cases o
      rfl
    rw [e]
    refine ⟨.ref p, _, J, rfl, ?_⟩
    refine af1.newZ rs1 hnn fun sz => ?_
    rw [Rep]
    exact ⟨_, _, rfl, upd_same, ints_reps _⟩
  · rw [if_neg hlim] at af1; exact af1.elim
end
end M
end
section
set_option Elab.async false
set_option linter.all false
set_option maxRecDepth 100000
set_option maxHeartbeats 0
namespace G
open PySem L2 M
def top (i : Nat) : Stmt := PySem.Challenge.pw_movedstates_k48_holder_by_its_lineup.main.body.getD i (.Pass ⟨0, 0, 0, 0⟩)
theorem xtab_nil {K : PySem.W.Frag} {y : Value} : ∀ c b, (c, b) ∈ ([] : List (Str × Bool)) → PySem.W.exmOne K (.ref (He.ga K c)) y = some b := fun _ _ h => by cases h
theorem xtab_cons {K : PySem.W.Frag} {y : Value} {c : Str} {b : Bool} {l : List (Str × Bool)} (h : PySem.W.exmOne K (.ref (He.ga K c)) y = some b) (r : ∀ c b, (c, b) ∈ l → PySem.W.exmOne K (.ref (He.ga K c)) y = some b) : ∀ c' b', (c', b') ∈ (c, b) :: l → PySem.W.exmOne K (.ref (He.ga K c')) y = some b' := fun c' b' hm => by
  rcases List.mem_cons.mp hm with e | e
  · cases e; exact h
  · exact r _ _ e
theorem cs_nil {Q : Str → Prop} : ∀ c, ([] : List Str).contains c = true → Q c := fun _ h => by cases h
theorem cs_cons {Q : Str → Prop} {c : Str} {l : List Str} (h : Q c) (r : ∀ c, l.contains c = true → Q c) : ∀ c', (c :: l).contains c' = true → Q c' := fun c' hm => by
  rw [List.contains_cons, Bool.or_eq_true] at hm
  rcases hm with e | e
  · rw [beq_iff_eq.mp e]; exact h
  · exact r _ e
abbrev s_BadName_init : Stmt := inCls (top 3) 0
def d_BadName_init : DefC := ⟨"BadName", "__init__", "BadName.__init__", defArgs s_BadName_init, defBody s_BadName_init, defScope s_BadName_init⟩
abbrev s_DuplicateName_init : Stmt := inCls (top 5) 0
def d_DuplicateName_init : DefC := ⟨"DuplicateName", "__init__", "DuplicateName.__init__", defArgs s_DuplicateName_init, defBody s_DuplicateName_init, defScope s_DuplicateName_init⟩
abbrev s_l_stream : Stmt := top 40
noncomputable def b_l_stream_2 : DS := dSeq (dEx (dBM isLst appendO (dVar 1) (dCons (dBin modO (dAp int1O (dCons (dVar 4) (dNil))) (dK (.int 100))) (dNil)))) (dSeq (dAsg (dBin fdivO (dVar 4) (dK (.int 100))) (gNm 4)) (dIf (dTru (dBin eqO (dVar 4) (dK (.int 0)))) (dBrk) (dSkip)))
noncomputable def b_l_stream_1 : DS := dSeq (dAsg (dAp absO (dCons (dVar 3) (dNil))) (gNm 4)) (dSeq (dIf (dTru (dBin ltO (dVar 4) (dK (.int 1000000000000000000)))) (dSeq (dAsg (dBin modO (dAp int1O (dCons (dBin mulO (dVar 4) (dBin addO (dBin addO (dK (.int 6364136223846793005)) (dBin mulO (dK (.int 2)) (dVar 2))) (dAp int1O (dCons (dBin ltO (dVar 3) (dK (.int 0))) (dNil))))) (dNil))) (dK (.int 1000000000000000003))) (gNm 4)) (dAsg (dBin modO (dAp int1O (dCons (dBin mulO (dVar 4) (dBin addO (dVar 4) (dK (.int 1442695040888963407)))) (dNil))) (dK (.int 1000000000000000009))) (gNm 4))) (dSkip)) (dForR1 (dCons (dK (.int 60)) (dNil)) (gNm 5) b_l_stream_2))
noncomputable def b_l_stream : DS := dSeq (dAsg (dAp lstO (dNil)) (gNm 1)) (dSeq (dForE (dCons (dSl (dVar 0) (dNoPart) (dPart (dK (.int 63)))) (dNil)) (gTp [gNm 2, gNm 3]) b_l_stream_1) (dSeq (dEx (dBM isLst reverseO (dVar 1) dNil)) (dRet (dVar 1))))
noncomputable def F_l_stream : DF := runF 1 6 false b_l_stream
def d_l_stream : He.DefD := ⟨("_law_stream", none), "_law_stream", "_law_stream", defArgs s_l_stream, defBody s_l_stream, defScope s_l_stream, [], []⟩
abbrev s_l_draw : Stmt := top 41
noncomputable def b_l_draw : DS := dSeq (dIf (dTru (dBin eqO (dAp lenO (dCons (dVar 0) (dNil))) (dK (.int 0)))) (dRet (dK (.int 0))) (dSkip)) (dRet (dBin modO (dAp int1O (dCons (dBM isLst popO (dVar 0) dNil) (dNil))) (dVar 1)))
noncomputable def F_l_draw : DF := runF 2 2 true b_l_draw
def d_l_draw : He.DefD := ⟨("_law_draw", none), "_law_draw", "_law_draw", defArgs s_l_draw, defBody s_l_draw, defScope s_l_draw, [], []⟩
abbrev s_l_size : Stmt := top 42
noncomputable def b_l_size : DS := dRet (dBin ixO (dAp lstF (dCons (dK (.int 1)) (dCons (dK (.int 2)) (dCons (dK (.int 3)) (dCons (dK (.int 3)) (dCons (dK (.int 4)) (dCons (dK (.int 4)) (dCons (dK (.int 4)) (dCons (dK (.int 4)) (dCons (dK (.int 4)) (dCons (dK (.int 5)) (dNil)))))))))))) (dCall F_l_draw (dCons (dVar 0) (dCons (dK (.int 10)) (dNil)))))
noncomputable def F_l_size : DF := runF 1 1 true b_l_size
def d_l_size : He.DefD := ⟨("_law_size", none), "_law_size", "_law_size", defArgs s_l_size, defBody s_l_size, defScope s_l_size, [], []⟩
abbrev s_l_makes : Stmt := top 43
noncomputable def b_l_makes_1 : DS := dEx (dBM isLst appendO (dVar 2) (dCons (dBin ixO (dAp lstF (dCons (dK (.str "a")) (dCons (dK (.str "b")) (dCons (dK (.str "a")) (dCons (dK (.str "b")) (dCons (dK (.str "any")) (dNil))))))) (dCall F_l_draw (dCons (dVar 0) (dCons (dK (.int 5)) (dNil))))) (dNil)))
noncomputable def b_l_makes : DS := dSeq (dAsg (dAp lstO (dNil)) (gNm 2)) (dSeq (dForR1 (dCons (dVar 1) (dNil)) (gNm 3) b_l_makes_1) (dRet (dVar 2)))
noncomputable def F_l_makes : DF := runF 2 4 true b_l_makes
def d_l_makes : He.DefD := ⟨("_law_makes", none), "_law_makes", "_law_makes", defArgs s_l_makes, defBody s_l_makes, defScope s_l_makes, [], []⟩
abbrev s_l_group : Stmt := top 45
noncomputable def b_l_group : DS := dSeq (dAsg (dCall F_l_draw (dCons (dVar 0) (dCons (dK (.int 6)) (dNil)))) (gNm 1)) (dSeq (dIf (dOr (dTru (dBin eqO (dVar 1) (dK (.int 0)))) (dTru (dBin eqO (dVar 1) (dK (.int 5))))) (dRet (dAp tupO (dCons (dK (.str "any")) (dNil)))) (dSkip)) (dRet (dAp tupO (dCons (dK (.str "make")) (dCons (dBin ixO (dAp lstF (dCons (dK (.str "a")) (dCons (dK (.str "b")) (dCons (dK (.str "any")) (dCons (dK (.str "c")) (dNil)))))) (dBin subO (dVar 1) (dK (.int 1)))) (dNil))))))
noncomputable def F_l_group : DF := runF 1 2 true b_l_group
def d_l_group : He.DefD := ⟨("_law_group", none), "_law_group", "_law_group", defArgs s_l_group, defBody s_l_group, defScope s_l_group, [], []⟩
abbrev s_l_rule : Stmt := top 46
noncomputable def b_l_rule_1 : DS := dSeq (dAsg (dCall F_l_group (dCons (dVar 0) (dNil))) (gNm 4)) (dSeq (dAsg (dBin ixO (dAp lstF (dCons (dK (.str "<")) (dCons (dK (.str ">=")) (dNil)))) (dCall F_l_draw (dCons (dVar 0) (dCons (dK (.int 2)) (dNil))))) (gNm 5)) (dEx (dBM isLst appendO (dVar 2) (dCons (dAp tupO (dCons (dVar 4) (dCons (dVar 5) (dCons (dBin ixO (dAp lstF (dCons (dK (.int 1)) (dCons (dK (.int 1)) (dCons (dK (.int 2)) (dCons (dK (.int 2)) (dCons (dK (.int 3)) (dCons (dK (.int 1)) (dCons (dK (.int 2)) (dCons (dK (.int 4)) (dNil)))))))))) (dCall F_l_draw (dCons (dVar 0) (dCons (dK (.int 8)) (dNil))))) (dNil))))) (dNil)))))
noncomputable def b_l_rule : DS := dSeq (dAsg (dCall F_l_group (dCons (dVar 0) (dNil))) (gNm 1)) (dSeq (dAsg (dAp lstO (dNil)) (gNm 2)) (dSeq (dForR1 (dCons (dBin ixO (dAp lstF (dCons (dK (.int 0)) (dCons (dK (.int 0)) (dCons (dK (.int 1)) (dCons (dK (.int 1)) (dCons (dK (.int 1)) (dCons (dK (.int 2)) (dCons (dK (.int 2)) (dCons (dK (.int 3)) (dNil)))))))))) (dCall F_l_draw (dCons (dVar 0) (dCons (dK (.int 8)) (dNil))))) (dNil)) (gNm 3) b_l_rule_1) (dRet (dAp tupO (dCons (dVar 1) (dCons (dAp tupleO (dCons (dVar 2) (dNil))) (dNil)))))))
noncomputable def F_l_rule : DF := runF 1 6 true b_l_rule
def d_l_rule : He.DefD := ⟨("_law_rule", none), "_law_rule", "_law_rule", defArgs s_l_rule, defBody s_l_rule, defScope s_l_rule, [], []⟩
abbrev s_l_rules : Stmt := top 47
noncomputable def b_l_rules_1 : DS := dEx (dBM isLst appendO (dVar 1) (dCons (dCall F_l_rule (dCons (dVar 0) (dNil))) (dNil)))
noncomputable def b_l_rules : DS := dSeq (dAsg (dAp lstO (dNil)) (gNm 1)) (dSeq (dForR1 (dCons (dBin ixO (dAp lstF (dCons (dK (.int 0)) (dCons (dK (.int 1)) (dCons (dK (.int 1)) (dCons (dK (.int 2)) (dCons (dK (.int 2)) (dCons (dK (.int 2)) (dCons (dK (.int 3)) (dCons (dK (.int 3)) (dCons (dK (.int 4)) (dCons (dK (.int 1)) (dNil)))))))))))) (dCall F_l_draw (dCons (dVar 0) (dCons (dK (.int 10)) (dNil))))) (dNil)) (gNm 2) b_l_rules_1) (dRet (dVar 1)))
noncomputable def F_l_rules : DF := runF 1 3 true b_l_rules
def d_l_rules : He.DefD := ⟨("_law_rules", none), "_law_rules", "_law_rules", defArgs s_l_rules, defBody s_l_rules, defScope s_l_rules, [], []⟩
def ct_MOST : List (Str × P) := [("Crew", .int 6), ("Scheme", .int 4)]
abbrev s_is_name : Stmt := top 22
noncomputable def b_is_name_1 : DS := dIf (dTru (dBin ninSO (dVar 1) (dK (.str "abcdefghijklmnopqrstuvwxyz")))) (dRet (dK (.bl false))) (dSkip)
noncomputable def b_is_name : DS := dSeq (dIf (dNot (dTru (dUn (isiO "str") (dVar 0)))) (dRet (dK (.bl false))) (dSkip)) (dSeq (dForS (dVar 0) (gNm 1) b_is_name_1) (dRet (dAndV (dBin neO (dVar 0) (dK (.str ""))) (dBin leO (dAp lenO (dCons (dVar 0) (dNil))) (dK (.int 8))))))
noncomputable def F_is_name : DF := runF 1 2 true b_is_name
def d_is_name : He.DefD := ⟨("is_name", none), "is_name", "is_name", defArgs s_is_name, defBody s_is_name, defScope s_is_name, [], []⟩
abbrev s_check_name : Stmt := top 23
noncomputable def b_check_name : DS := dIf (dNot (dTru (dCall F_is_name (dCons (dVar 0) (dNil))))) (dRaise "BadName" "name" (dCons (dVar 0) (dNil))) (dSkip)
noncomputable def F_check_name : DF := runF 1 1 true b_check_name
def d_check_name : He.DefD := ⟨("check_name", none), "check_name", "check_name", defArgs s_check_name, defBody s_check_name, defScope s_check_name, [], []⟩
abbrev s_Crew_has : Stmt := inCls (top 27) 7
noncomputable def b_Crew_has : DS := dRet (dBin inO (dVar 1) (dLcCZ (dFld "_workers" ["Crew"] (dVar 0)) 2 (dYes) (dBin ixO (dVar 2) (dK (.int 0)))))
noncomputable def F_Crew_has : DF := runF 2 3 true b_Crew_has
def d_Crew_has : He.DefD := ⟨("Crew", some "_has"), "_has", "Crew._has", defArgs s_Crew_has, defBody s_Crew_has, defScope s_Crew_has, [], []⟩
noncomputable def mt__has : List (Str × DF) := [("Crew", F_Crew_has)]
abbrev s_Crew_init : Stmt := inCls (top 27) 1
noncomputable def b_Crew_init_1 : DS := dSeq (dEx (dCall F_check_name (dCons (dVar 2) (dNil)))) (dSeq (dEx (dCall F_check_name (dCons (dVar 3) (dNil)))) (dSeq (dIf (dTru (dMeth "_has" mt__has (dVar 0) (dCons (dVar 2) (dNil)))) (dRaise "DuplicateName" "name" (dCons (dVar 2) (dNil))) (dSkip)) (dEx (dBM isLst appendO (dFld "_workers" ["Crew"] (dVar 0)) (dCons (dAp tupO (dCons (dVar 2) (dCons (dVar 3) (dNil)))) (dNil))))))
noncomputable def b_Crew_init : DS := dSeq (dIf (dOr (dTru (dBin eqO (dAp lenO (dCons (dVar 1) (dNil))) (dK (.int 0)))) (dTru (dBin gtO (dAp lenO (dCons (dVar 1) (dNil))) (dCon "MOST" ct_MOST (dVar 0))))) (dRaiseT "BadCrew") (dSkip)) (dSeq (dSetA "_workers" ["Crew"] (dAp lstO (dNil)) (dVar 0)) (dForL (dVar 1) (gTp [gNm 2, gNm 3]) b_Crew_init_1))
noncomputable def F_Crew_init : DF := runF 2 4 true b_Crew_init
def d_Crew_init : He.DefD := ⟨("Crew", some "__init__"), "__init__", "Crew.__init__", defArgs s_Crew_init, defBody s_Crew_init, defScope s_Crew_init, [], []⟩
abbrev s_l_workers : Stmt := top 44
noncomputable def b_l_workers_1 : DS := dEx (dBM isLst appendO (dVar 3) (dCons (dAp tupO (dCons (dBin ixO (dVar 2) (dBin modO (dAp int1O (dCons (dBin addF (dBin mulO (dVar 4) (dK (.int 5))) (dVar 1)) (dNil))) (dK (.int 6)))) (dCons (dBin ixO (dVar 0) (dVar 4)) (dNil)))) (dNil)))
noncomputable def b_l_workers : DS := dSeq (dAsg (dAp lstF (dCons (dK (.str "m")) (dCons (dK (.str "kb")) (dCons (dK (.str "a")) (dCons (dK (.str "zzz")) (dCons (dK (.str "if")) (dCons (dK (.str "any")) (dNil)))))))) (gNm 2)) (dSeq (dAsg (dAp lstO (dNil)) (gNm 3)) (dSeq (dForR1 (dCons (dAp lenO (dCons (dVar 0) (dNil))) (dNil)) (gNm 4) b_l_workers_1) (dRet (dVar 3))))
noncomputable def F_l_workers : DF := runF 2 5 true b_l_workers
def d_l_workers : He.DefD := ⟨("_law_workers", none), "_law_workers", "_law_workers", defArgs s_l_workers, defBody s_l_workers, defScope s_l_workers, [], []⟩
def ct_MOST_BOUNDS : List (Str × P) := [("Scheme", .int 3)]
abbrev s_Scheme_init : Stmt := inCls (top 38) 2
noncomputable def b_Scheme_init_1 : DS := dIf (dTru (dBin gtO (dAp lenO (dCons (dVar 3) (dNil))) (dCon "MOST_BOUNDS" ct_MOST_BOUNDS (dVar 0)))) (dRaiseT "BadScheme") (dSkip)
noncomputable def b_Scheme_init : DS := dSeq (dSetA "rules" ["Scheme"] (dAp listF (dCons (dVar 1) (dNil))) (dVar 0)) (dSeq (dIf (dTru (dBin gtO (dAp lenO (dCons (dFld "rules" ["Scheme"] (dVar 0)) (dNil))) (dCon "MOST" ct_MOST (dVar 0)))) (dRaiseT "BadScheme") (dSkip)) (dForL (dFld "rules" ["Scheme"] (dVar 0)) (gTp [gNm 2, gNm 3]) b_Scheme_init_1))
noncomputable def F_Scheme_init : DF := runF 2 4 true b_Scheme_init
def d_Scheme_init : He.DefD := ⟨("Scheme", some "__init__"), "__init__", "Scheme.__init__", defArgs s_Scheme_init, defBody s_Scheme_init, defScope s_Scheme_init, [], []⟩
abbrev s_l_ranking : Stmt := top 50
noncomputable def b_l_ranking_1 : DS := dEx (dBM isLst appendO (dVar 3) (dCons (dBM isLst popO (dVar 2) (dCons (dCall F_l_draw (dCons (dVar 0) (dCons (dAp lenO (dCons (dVar 2) (dNil))) (dNil)))) (dNil))) (dNil)))
noncomputable def b_l_ranking : DS := dSeq (dAsg (dUn rgO (dVar 1)) (gNm 2)) (dSeq (dAsg (dAp lstO (dNil)) (gNm 3)) (dSeq (dForR1 (dCons (dVar 1) (dNil)) (gNm 4) b_l_ranking_1) (dRet (dVar 3))))
noncomputable def F_l_ranking : DF := runF 2 5 true b_l_ranking
def d_l_ranking : He.DefD := ⟨("_law_ranking", none), "_law_ranking", "_law_ranking", defArgs s_l_ranking, defBody s_l_ranking, defScope s_l_ranking, [], []⟩
abbrev s_l_spot : Stmt := top 48
noncomputable def b_l_spot : DS := dSeq (dAsg (dAp lstF (dCons (dK (.int 1)) (dCons (dK (.int 2)) (dCons (dK (.int 4)) (dCons (dK (.int 8)) (dCons (dK (.int 16)) (dCons (dK (.int 32)) (dNil)))))))) (gNm 2)) (dRet (dAp tupleO (dCons (dLcR1Z (dCons (dVar 0) (dNil)) 3 (dTru (dBin eqO (dBin modO (dAp int1O (dCons (dBin fdivO (dVar 1) (dBin ixO (dVar 2) (dVar 3))) (dNil))) (dK (.int 2))) (dK (.int 1)))) (dVar 3)) (dNil))))
noncomputable def F_l_spot : DF := runF 2 4 true b_l_spot
def d_l_spot : He.DefD := ⟨("_law_spot", none), "_law_spot", "_law_spot", defArgs s_l_spot, defBody s_l_spot, defScope s_l_spot, [], []⟩
abbrev s_l_spots : Stmt := top 49
noncomputable def b_l_spots_1 : DS := dSeq (dAsg (dCall F_l_draw (dCons (dVar 0) (dCons (dK (.int 4)) (dNil)))) (gNm 8)) (dSeq (dAsg (dVar 5) (gNm 9)) (dSeq (dIf (dTru (dBin eqO (dVar 8) (dK (.int 3)))) (dAsg (dBin addF (dK (.int 1)) (dCall F_l_draw (dCons (dVar 0) (dCons (dVar 3) (dNil))))) (gNm 9)) (dIf (dTru (dBin gtO (dVar 8) (dK (.int 0)))) (dSeq (dAsg (dBin ixO (dVar 4) (dCall F_l_draw (dCons (dVar 0) (dCons (dVar 1) (dNil))))) (gNm 10)) (dSeq (dAsg (dBin addF (dVar 5) (dVar 10)) (gNm 9)) (dIf (dTru (dBin eqO (dBin modO (dAp int1O (dCons (dBin fdivO (dVar 5) (dVar 10)) (dNil))) (dK (.int 2))) (dK (.int 1)))) (dAsg (dBin subO (dVar 5) (dVar 10)) (gNm 9)) (dSkip)))) (dSkip))) (dSeq (dIf (dTru (dBin gtO (dVar 9) (dK (.int 0)))) (dAsg (dVar 9) (gNm 5)) (dSkip)) (dEx (dBM isLst appendO (dVar 6) (dCons (dCall F_l_spot (dCons (dVar 1) (dCons (dVar 5) (dNil)))) (dNil)))))))
noncomputable def b_l_spots : DS := dSeq (dAsg (dBin ixO (dAp lstF (dCons (dK (.int 1)) (dCons (dK (.int 3)) (dCons (dK (.int 7)) (dCons (dK (.int 15)) (dCons (dK (.int 31)) (dCons (dK (.int 63)) (dNil)))))))) (dBin subO (dVar 1) (dK (.int 1)))) (gNm 3)) (dSeq (dAsg (dAp lstF (dCons (dK (.int 1)) (dCons (dK (.int 2)) (dCons (dK (.int 4)) (dCons (dK (.int 8)) (dCons (dK (.int 16)) (dCons (dK (.int 32)) (dNil)))))))) (gNm 4)) (dSeq (dAsg (dBin addF (dK (.int 1)) (dCall F_l_draw (dCons (dVar 0) (dCons (dVar 3) (dNil))))) (gNm 5)) (dSeq (dAsg (dAp lstO (dCons (dCall F_l_spot (dCons (dVar 1) (dCons (dVar 5) (dNil)))) (dNil))) (gNm 6)) (dSeq (dForR1 (dCons (dBin subO (dVar 2) (dK (.int 1))) (dNil)) (gNm 7) b_l_spots_1) (dRet (dVar 6))))))
noncomputable def F_l_spots : DF := runF 3 11 true b_l_spots
def d_l_spots : He.DefD := ⟨("_law_spots", none), "_law_spots", "_law_spots", defArgs s_l_spots, defBody s_l_spots, defScope s_l_spots, [], []⟩
abbrev s_l_in_group : Stmt := top 51
noncomputable def b_l_in_group : DS := dRet (dOrV (dBin eqO (dVar 0) (dAp tupO (dCons (dK (.str "any")) (dNil)))) (dBin eqO (dBin ixO (dVar 0) (dK (.int 1))) (dVar 1)))
noncomputable def F_l_in_group : DF := runF 2 2 true b_l_in_group
def d_l_in_group : He.DefD := ⟨("_law_in_group", none), "_law_in_group", "_law_in_group", defArgs s_l_in_group, defBody s_l_in_group, defScope s_l_in_group, [], []⟩
abbrev s_l_takes : Stmt := top 52
noncomputable def b_l_takes_2 : DS := dSeq (dAsg (dAp lenO (dCons (dLcCZ (dVar 2) 9 (dTru (dCall F_l_in_group (dCons (dBin ixO (dVar 6) (dK (.int 0))) (dCons (dVar 9) (dNil))))) (dVar 9)) (dNil))) (gNm 7)) (dSeq (dAsg (dBin eqO (dBin ixO (dVar 6) (dK (.int 1))) (dK (.str "<"))) (gNm 8)) (dIf (dTru (dBin neO (dVar 8) (dBin ltO (dVar 7) (dBin ixO (dVar 6) (dK (.int 2)))))) (dAsg (dK (.bl false)) (gNm 5)) (dSkip)))
noncomputable def b_l_takes_1 : DS := dSeq (dAsg (dCall F_l_in_group (dCons (dVar 3) (dCons (dVar 1) (dNil)))) (gNm 5)) (dSeq (dForL (dVar 4) (gNm 6) b_l_takes_2) (dIf (dTru (dVar 5)) (dRet (dK (.bl true))) (dSkip)))
noncomputable def b_l_takes : DS := dSeq (dForL (dVar 0) (gTp [gNm 3, gNm 4]) b_l_takes_1) (dRet (dK (.bl false)))
noncomputable def F_l_takes : DF := runF 3 10 true b_l_takes
def d_l_takes : He.DefD := ⟨("_law_takes", none), "_law_takes", "_law_takes", defArgs s_l_takes, defBody s_l_takes, defScope s_l_takes, [], []⟩
abbrev s_l_steps : Stmt := top 53
noncomputable def b_l_steps_1 : DS := dSeq (dEx (dBM isLst appendO (dVar 4) (dCons (dAp tupO (dCons (dVar 5) (dCons (dCall F_l_takes (dCons (dVar 1) (dCons (dBin ixO (dVar 0) (dVar 5)) (dCons (dVar 3) (dNil))))) (dNil)))) (dNil)))) (dEx (dBM isLst appendO (dVar 3) (dCons (dBin ixO (dVar 0) (dVar 5)) (dNil))))
noncomputable def b_l_steps : DS := dSeq (dAsg (dAp lstO (dNil)) (gNm 3)) (dSeq (dAsg (dAp lstO (dNil)) (gNm 4)) (dSeq (dForL (dVar 2) (gNm 5) b_l_steps_1) (dRet (dVar 4))))
noncomputable def F_l_steps : DF := runF 3 6 true b_l_steps
def d_l_steps : He.DefD := ⟨("_law_steps", none), "_law_steps", "_law_steps", defArgs s_l_steps, defBody s_l_steps, defScope s_l_steps, [], []⟩
abbrev s_l_first : Stmt := top 54
noncomputable def b_l_first_1 : DS := dIf (dTru (dBin ixO (dVar 1) (dK (.int 1)))) (dRet (dBin ixO (dVar 1) (dK (.int 0)))) (dSkip)
noncomputable def b_l_first : DS := dSeq (dForL (dVar 0) (gNm 1) b_l_first_1) (dRet (dBin ixO (dBin ixO (dVar 0) (dK (.int 0))) (dK (.int 0))))
noncomputable def F_l_first : DF := runF 1 2 true b_l_first
def d_l_first : He.DefD := ⟨("_law_first", none), "_law_first", "_law_first", defArgs s_l_first, defBody s_l_first, defScope s_l_first, [], []⟩
abbrev s_present : Stmt := top 13
noncomputable def b_present : DS := dRet (dLcLZ (dVar 0) 2 (dTru (dBin inO (dVar 2) (dVar 1))) (dVar 2))
noncomputable def F_present : DF := runF 2 3 true b_present
def d_present : He.DefD := ⟨("present", none), "present", "present", defArgs s_present, defBody s_present, defScope s_present, [], []⟩
abbrev s_l_same_steps : Stmt := top 55
noncomputable def b_l_same_steps_1 : DS := dIf (dOr (dNot (dTru (dUn (isiO "tuple") (dVar 2)))) (dOr (dTru (dUn (isiO "bool") (dBin ixO (dVar 2) (dK (.int 0))))) (dNot (dTru (dUn (isiO "bool") (dBin ixO (dVar 2) (dK (.int 1)))))))) (dRet (dK (.bl false))) (dSkip)
noncomputable def b_l_same_steps : DS := dSeq (dIf (dOr (dNot (dTru (dUn (isiO "list") (dVar 0)))) (dTru (dBin neO (dVar 0) (dVar 1)))) (dRet (dK (.bl false))) (dSkip)) (dSeq (dForL (dVar 0) (gNm 2) b_l_same_steps_1) (dRet (dK (.bl true))))
noncomputable def F_l_same_steps : DF := runF 2 3 true b_l_same_steps
def d_l_same_steps : He.DefD := ⟨("_law_same_steps", none), "_law_same_steps", "_law_same_steps", defArgs s_l_same_steps, defBody s_l_same_steps, defScope s_l_same_steps, [], []⟩
abbrev s_Crew_len : Stmt := inCls (top 27) 4
noncomputable def b_Crew_len : DS := dRet (dAp lenO (dCons (dFld "_workers" ["Crew"] (dVar 0)) (dNil)))
noncomputable def F_Crew_len : DF := runF 1 1 true b_Crew_len
def d_Crew_len : He.DefD := ⟨("Crew", some "__len__"), "__len__", "Crew.__len__", defArgs s_Crew_len, defBody s_Crew_len, defScope s_Crew_len, [], []⟩
abbrev s_Scheme_len : Stmt := inCls (top 38) 6
noncomputable def b_Scheme_len : DS := dRet (dAp lenO (dCons (dFld "rules" ["Scheme"] (dVar 0)) (dNil)))
noncomputable def F_Scheme_len : DF := runF 1 1 true b_Scheme_len
def d_Scheme_len : He.DefD := ⟨("Scheme", some "__len__"), "__len__", "Scheme.__len__", defArgs s_Scheme_len, defBody s_Scheme_len, defScope s_Scheme_len, [], []⟩
noncomputable def mt_len : List (Str × DF) := [("Crew", F_Crew_len), ("Scheme", F_Scheme_len)]
abbrev s_check_ranking : Stmt := top 11
noncomputable def b_check_ranking : DS := dIf (dTru (dBin neO (dAp sortG (dCons (dVar 1) (dNil))) (dUn rgF (dAp (lenX mt_len) (dCons (dVar 0) (dNil)))))) (dRaiseT "BadRanking") (dSkip)
noncomputable def F_check_ranking : DF := runF 2 2 true b_check_ranking
def d_check_ranking : He.DefD := ⟨("check_ranking", none), "check_ranking", "check_ranking", defArgs s_check_ranking, defBody s_check_ranking, defScope s_check_ranking, [], []⟩
abbrev s_check_yards : Stmt := top 12
noncomputable def b_check_yards_1 : DS := dIf (dOr (dNot (dTru (dVar 2))) (dOr (dTru (dBin neO (dAp listF (dCons (dVar 2) (dNil))) (dUn sortSetTO (dVar 2)))) (dOr (dTru (dBin ltO (dBin ixO (dVar 2) (dK (.int 0))) (dK (.int 0)))) (dTru (dBin geO (dBin ixO (dVar 2) (dUn negO (dK (.int 1)))) (dAp (lenX mt_len) (dCons (dVar 0) (dNil)))))))) (dRaiseT "BadYard") (dSkip)
noncomputable def b_check_yards : DS := dForL (dVar 1) (gNm 2) b_check_yards_1
noncomputable def F_check_yards : DF := runF 2 3 true b_check_yards
def d_check_yards : He.DefD := ⟨("check_yards", none), "check_yards", "check_yards", defArgs s_check_yards, defBody s_check_yards, defScope s_check_yards, [], []⟩
abbrev s_Crew_make_of : Stmt := inCls (top 27) 9
noncomputable def b_Crew_make_of : DS := dRet (dBin ixO (dBin ixO (dFld "_workers" ["Crew"] (dVar 0)) (dVar 1)) (dK (.int 1)))
noncomputable def F_Crew_make_of : DF := runF 2 2 true b_Crew_make_of
def d_Crew_make_of : He.DefD := ⟨("Crew", some "make_of"), "make_of", "Crew.make_of", defArgs s_Crew_make_of, defBody s_Crew_make_of, defScope s_Crew_make_of, [], []⟩
noncomputable def mt_make_of : List (Str × DF) := [("Crew", F_Crew_make_of)]
abbrev s_belongs : Stmt := top 31
noncomputable def b_belongs : DS := dRet (dOrV (dBin eqO (dVar 1) (dAp tupO (dCons (dK (.str "any")) (dNil)))) (dBin eqO (dBin ixO (dVar 1) (dK (.int 1))) (dVar 0)))
noncomputable def F_belongs : DF := runF 2 2 true b_belongs
def d_belongs : He.DefD := ⟨("belongs", none), "belongs", "belongs", defArgs s_belongs, defBody s_belongs, defScope s_belongs, [], []⟩
abbrev s_bound_holds : Stmt := top 32
noncomputable def b_bound_holds : DS := dSeq (dAsg (dVar 0) (gTp [gNm 3, gNm 4, gNm 5])) (dSeq (dAsg (dAp lenO (dCons (dLcLZ (dVar 1) 6 (dTru (dCall F_belongs (dCons (dVar 6) (dCons (dVar 3) (dNil))))) (dVar 6)) (dNil))) (gNm 2)) (dSeq (dIf (dTru (dBin eqO (dVar 4) (dK (.str "<")))) (dRet (dBin ltO (dVar 2) (dVar 5))) (dSkip)) (dRet (dBin geO (dVar 2) (dVar 5)))))
noncomputable def F_bound_holds : DF := runF 2 7 true b_bound_holds
def d_bound_holds : He.DefD := ⟨("bound_holds", none), "bound_holds", "bound_holds", defArgs s_bound_holds, defBody s_bound_holds, defScope s_bound_holds, [], []⟩
abbrev s_Scheme_takes : Stmt := inCls (top 38) 5
noncomputable def b_Scheme_takes_1 : DS := dIf (dAnd (dTru (dCall F_belongs (dCons (dVar 1) (dCons (dVar 3) (dNil))))) (dTru (dAp allO (dCons (dLcLZ (dVar 4) 5 (dYes) (dCall F_bound_holds (dCons (dVar 5) (dCons (dVar 2) (dNil))))) (dNil))))) (dRet (dK (.bl true))) (dSkip)
noncomputable def b_Scheme_takes : DS := dSeq (dForL (dFld "rules" ["Scheme"] (dVar 0)) (gTp [gNm 3, gNm 4]) b_Scheme_takes_1) (dRet (dK (.bl false)))
noncomputable def F_Scheme_takes : DF := runF 3 6 true b_Scheme_takes
def d_Scheme_takes : He.DefD := ⟨("Scheme", some "takes"), "takes", "Scheme.takes", defArgs s_Scheme_takes, defBody s_Scheme_takes, defScope s_Scheme_takes, [], []⟩
noncomputable def mt_takes : List (Str × DF) := [("Scheme", F_Scheme_takes)]
abbrev s_walked : Stmt := top 14
noncomputable def b_walked : DS := dSeq (dAsg (dLcLZ (dVar 2) 4 (dYes) (dMeth "make_of" mt_make_of (dVar 0) (dCons (dVar 4) (dNil)))) (gNm 3)) (dRet (dLcE (dCons (dVar 2) (dNil)) [5, 4] (dYes) (dAp tupO (dCons (dVar 4) (dCons (dMeth "takes" mt_takes (dVar 1) (dCons (dBin ixO (dVar 3) (dVar 5)) (dCons (dSlF (dVar 3) (dNoPart) (dPart (dVar 5))) (dNil)))) (dNil))))))
noncomputable def F_walked : DF := runF 3 6 true b_walked
def d_walked : He.DefD := ⟨("walked", none), "walked", "walked", defArgs s_walked, defBody s_walked, defScope s_walked, [], []⟩
abbrev s_walk : Stmt := top 15
noncomputable def b_walk : DS := dSeq (dEx (dCall F_check_ranking (dCons (dVar 0) (dCons (dVar 2) (dNil))))) (dSeq (dEx (dCall F_check_yards (dCons (dVar 0) (dCons (dAp lstF (dCons (dVar 3) (dNil))) (dNil))))) (dRet (dCall F_walked (dCons (dVar 0) (dCons (dVar 1) (dCons (dCall F_present (dCons (dVar 2) (dCons (dVar 3) (dNil)))) (dNil)))))))
noncomputable def F_walk : DF := runF 4 4 true b_walk
def d_walk : He.DefD := ⟨("walk", none), "walk", "walk", defArgs s_walk, defBody s_walk, defScope s_walk, [], []⟩
abbrev s_l_is_worker : Stmt := top 56
noncomputable def b_l_is_worker : DS := dRet (dAndV (dUn (isiO "int") (dVar 0)) (dAndV (dNotV (dUn (isiO "bool") (dVar 0))) (dBin eqO (dVar 0) (dVar 1))))
noncomputable def F_l_is_worker : DF := runF 2 2 true b_l_is_worker
def d_l_is_worker : He.DefD := ⟨("_law_is_worker", none), "_law_is_worker", "_law_is_worker", defArgs s_l_is_worker, defBody s_l_is_worker, defScope s_l_is_worker, [], []⟩
abbrev s_first_taken : Stmt := top 16
noncomputable def b_first_taken_1 : DS := dIf (dTru (dVar 2)) (dRet (dVar 1)) (dSkip)
noncomputable def b_first_taken : DS := dSeq (dForL (dVar 0) (gTp [gNm 1, gNm 2]) b_first_taken_1) (dRet (dBin ixO (dBin ixO (dVar 0) (dK (.int 0))) (dK (.int 0))))
noncomputable def F_first_taken : DF := runF 1 3 true b_first_taken
def d_first_taken : He.DefD := ⟨("first_taken", none), "first_taken", "first_taken", defArgs s_first_taken, defBody s_first_taken, defScope s_first_taken, [], []⟩
abbrev s_holder : Stmt := top 17
noncomputable def b_holder : DS := dRet (dCall F_first_taken (dCons (dCall F_walk (dCons (dVar 0) (dCons (dVar 1) (dCons (dVar 2) (dCons (dVar 3) (dNil)))))) (dNil)))
noncomputable def F_holder : DF := runF 4 4 true b_holder
def d_holder : He.DefD := ⟨("holder", none), "holder", "holder", defArgs s_holder, defBody s_holder, defScope s_holder, [], []⟩
abbrev s_l_rearranged : Stmt := top 57
noncomputable def b_l_rearranged_1 : DS := dIf (dTru (dBin inO (dVar 4) (dVar 1))) (dEx (dBM isLst appendO (dVar 3) (dCons (dBM isLst popO (dVar 2) (dCons (dK (.int 0)) (dNil))) (dNil)))) (dEx (dBM isLst appendO (dVar 3) (dCons (dVar 4) (dNil))))
noncomputable def b_l_rearranged : DS := dSeq (dAsg (dAp listO (dCons (dVar 1) (dNil))) (gNm 2)) (dSeq (dAsg (dAp lstO (dNil)) (gNm 3)) (dSeq (dForL (dVar 0) (gNm 4) b_l_rearranged_1) (dRet (dVar 3))))
noncomputable def F_l_rearranged : DF := runF 2 5 true b_l_rearranged
def d_l_rearranged : He.DefD := ⟨("_law_rearranged", none), "_law_rearranged", "_law_rearranged", defArgs s_l_rearranged, defBody s_l_rearranged, defScope s_l_rearranged, [], []⟩
abbrev s_l_toggled : Stmt := top 58
noncomputable def b_l_toggled : DS := dSeq (dIf (dTru (dBin inO (dVar 1) (dVar 0))) (dRet (dAp tupleO (dCons (dLcLZ (dVar 0) 2 (dTru (dBin neO (dVar 2) (dVar 1))) (dVar 2)) (dNil)))) (dSkip)) (dRet (dAp tupleO (dCons (dAp sortG (dCons (dBin addF (dAp listF (dCons (dVar 0) (dNil))) (dAp lstF (dCons (dVar 1) (dNil)))) (dNil))) (dNil))))
noncomputable def F_l_toggled : DF := runF 2 3 true b_l_toggled
def d_l_toggled : He.DefD := ⟨("_law_toggled", none), "_law_toggled", "_law_toggled", defArgs s_l_toggled, defBody s_l_toggled, defScope s_l_toggled, [], []⟩
abbrev s_l_yard_fits : Stmt := top 59
noncomputable def b_l_yard_fits_1 : DS := dSeq (dAsg (dCall F_holder (dCons (dVar 0) (dCons (dVar 1) (dCons (dVar 10) (dCons (dCall F_l_toggled (dCons (dVar 6) (dCons (dVar 12) (dNil)))) (dNil)))))) (gNm 14)) (dIf (dNot (dTru (dCall F_l_is_worker (dCons (dVar 14) (dCons (dVar 9) (dNil)))))) (dRet (dK (.bl false))) (dSkip))
noncomputable def b_l_yard_fits : DS := dSeq (dAsg (dLcLZ (dVar 4) 13 (dTru (dBin inO (dVar 13) (dVar 6))) (dVar 13)) (gNm 7)) (dSeq (dAsg (dCall F_l_steps (dCons (dVar 2) (dCons (dVar 3) (dCons (dVar 7) (dNil))))) (gNm 8)) (dSeq (dAsg (dCall F_l_first (dCons (dVar 8) (dNil))) (gNm 9)) (dSeq (dAsg (dAp listF (dCons (dVar 4) (dNil))) (gNm 10)) (dSeq (dIf (dTru (dBin neO (dCall F_present (dCons (dVar 10) (dCons (dVar 6) (dNil)))) (dVar 7))) (dRet (dK (.bl false))) (dSkip)) (dSeq (dIf (dNot (dTru (dCall F_l_same_steps (dCons (dCall F_walk (dCons (dVar 0) (dCons (dVar 1) (dCons (dVar 10) (dCons (dVar 6) (dNil)))))) (dCons (dVar 8) (dNil)))))) (dRet (dK (.bl false))) (dSkip)) (dSeq (dIf (dNot (dTru (dCall F_l_is_worker (dCons (dCall F_holder (dCons (dVar 0) (dCons (dVar 1) (dCons (dVar 10) (dCons (dVar 6) (dNil)))))) (dCons (dVar 9) (dNil)))))) (dRet (dK (.bl false))) (dSkip)) (dSeq (dAsg (dCall F_l_rearranged (dCons (dVar 5) (dCons (dVar 7) (dNil)))) (gNm 11)) (dSeq (dIf (dNot (dTru (dCall F_l_is_worker (dCons (dCall F_holder (dCons (dVar 0) (dCons (dVar 1) (dCons (dVar 11) (dCons (dVar 6) (dNil)))))) (dCons (dVar 9) (dNil)))))) (dRet (dK (.bl false))) (dSkip)) (dSeq (dIf (dTru (dBin inO (dAp tupO (dCons (dVar 9) (dCons (dK (.bl true)) (dNil)))) (dVar 8))) (dForL (dSlF (dVar 4) (dPart (dBin addF (dBM isLst indexLO (dVar 4) (dCons (dVar 9) (dNil))) (dK (.int 1)))) (dNoPart)) (gNm 12) b_l_yard_fits_1) (dSkip)) (dRet (dBin eqO (dVar 10) (dVar 4))))))))))))
noncomputable def F_l_yard_fits : DF := runF 7 15 true b_l_yard_fits
def d_l_yard_fits : He.DefD := ⟨("_law_yard_fits", none), "_law_yard_fits", "_law_yard_fits", defArgs s_l_yard_fits, defBody s_l_yard_fits, defScope s_l_yard_fits, [], []⟩
abbrev s_holders : Stmt := top 18
noncomputable def b_holders : DS := dSeq (dEx (dCall F_check_ranking (dCons (dVar 0) (dCons (dVar 2) (dNil))))) (dSeq (dEx (dCall F_check_yards (dCons (dVar 0) (dCons (dVar 3) (dNil))))) (dRet (dLcLZ (dVar 3) 4 (dYes) (dCall F_first_taken (dCons (dCall F_walked (dCons (dVar 0) (dCons (dVar 1) (dCons (dCall F_present (dCons (dVar 2) (dCons (dVar 4) (dNil)))) (dNil))))) (dNil))))))
noncomputable def F_holders : DF := runF 4 5 true b_holders
def d_holders : He.DefD := ⟨("holders", none), "holders", "holders", defArgs s_holders, defBody s_holders, defScope s_holders, [], []⟩
abbrev s_l_bad_ranking : Stmt := top 61
noncomputable def b_l_bad_ranking : DS := dSeq (dAsg (dAp lenO (dCons (dVar 1) (dNil))) (gNm 2)) (dSeq (dAsg (dCall F_l_draw (dCons (dVar 0) (dCons (dVar 2) (dNil)))) (gNm 3)) (dSeq (dAsg (dCall F_l_draw (dCons (dVar 0) (dCons (dK (.int 5)) (dNil)))) (gNm 4)) (dSeq (dIf (dTru (dBin eqO (dVar 4) (dK (.int 0)))) (dRet (dBin addF (dSlF (dVar 1) (dNoPart) (dPart (dVar 3))) (dSlF (dVar 1) (dPart (dBin addF (dVar 3) (dK (.int 1)))) (dNoPart)))) (dSkip)) (dSeq (dIf (dTru (dBin eqO (dVar 4) (dK (.int 1)))) (dRet (dBin addF (dVar 1) (dAp lstF (dCons (dBin ixO (dVar 1) (dVar 3)) (dNil))))) (dSkip)) (dSeq (dIf (dTru (dBin eqO (dVar 4) (dK (.int 2)))) (dRet (dBin addF (dBin addF (dSlF (dVar 1) (dNoPart) (dPart (dVar 3))) (dAp lstF (dCons (dVar 2) (dNil)))) (dSlF (dVar 1) (dPart (dBin addF (dVar 3) (dK (.int 1)))) (dNoPart)))) (dSkip)) (dSeq (dIf (dTru (dBin eqO (dVar 4) (dK (.int 3)))) (dRet (dBin addF (dBin addF (dSlF (dVar 1) (dNoPart) (dPart (dVar 3))) (dAp lstF (dCons (dUn negO (dK (.int 1))) (dNil)))) (dSlF (dVar 1) (dPart (dBin addF (dVar 3) (dK (.int 1)))) (dNoPart)))) (dSkip)) (dRet (dBin addF (dVar 1) (dAp lstF (dCons (dVar 2) (dNil)))))))))))
noncomputable def F_l_bad_ranking : DF := runF 2 5 true b_l_bad_ranking
def d_l_bad_ranking : He.DefD := ⟨("_law_bad_ranking", none), "_law_bad_ranking", "_law_bad_ranking", defArgs s_l_bad_ranking, defBody s_l_bad_ranking, defScope s_l_bad_ranking, [], []⟩
abbrev s_l_bad_spot : Stmt := top 62
noncomputable def b_l_bad_spot : DS := dSeq (dAsg (dCall F_l_draw (dCons (dVar 0) (dCons (dVar 1) (dNil)))) (gNm 2)) (dSeq (dAsg (dBin addF (dVar 2) (dK (.int 1))) (gNm 3)) (dRet (dBin ixO (dAp lstF (dCons (dAp tupO (dNil)) (dCons (dAp tupO (dCons (dVar 2) (dCons (dVar 2) (dNil)))) (dCons (dAp tupO (dCons (dVar 2) (dCons (dVar 1) (dNil)))) (dCons (dAp tupO (dCons (dUn negO (dK (.int 1))) (dCons (dVar 2) (dNil)))) (dCons (dAp tupO (dCons (dVar 1) (dNil))) (dCons (dAp tupO (dCons (dUn negO (dK (.int 1))) (dNil))) (dCons (dAp tupO (dCons (dVar 3) (dCons (dVar 2) (dNil)))) (dCons (dAp tupO (dCons (dVar 2) (dCons (dVar 3) (dCons (dVar 3) (dNil))))) (dNil)))))))))) (dCall F_l_draw (dCons (dVar 0) (dCons (dK (.int 8)) (dNil)))))))
noncomputable def F_l_bad_spot : DF := runF 2 4 true b_l_bad_spot
def d_l_bad_spot : He.DefD := ⟨("_law_bad_spot", none), "_law_bad_spot", "_law_bad_spot", defArgs s_l_bad_spot, defBody s_l_bad_spot, defScope s_l_bad_spot, [], []⟩
abbrev s_l_refusal : Stmt := top 60
noncomputable def x_l_refusal_1 (c : Str) (fs : Option (List (Str × P))) : DS := dAsg (dK (.str "ranking")) (gNm 5)
noncomputable def x_l_refusal_2 (c : Str) (fs : Option (List (Str × P))) : DS := dAsg (dK (.str "yard")) (gNm 5)
noncomputable def x_l_refusal_3 (c : Str) (fs : Option (List (Str × P))) : DS := dAsg (dK (.str "other")) (gNm 5)
noncomputable def b_l_refusal_4 : DS := dIf (dTru (dBin eqO (dVar 4) (dK (.int 0)))) (dEx (dCall F_walk (dCons (dVar 0) (dCons (dVar 1) (dCons (dVar 2) (dCons (dBin ixO (dVar 3) (dUn negO (dK (.int 1)))) (dNil))))))) (dIf (dTru (dBin eqO (dVar 4) (dK (.int 1)))) (dEx (dCall F_holder (dCons (dVar 0) (dCons (dVar 1) (dCons (dVar 2) (dCons (dBin ixO (dVar 3) (dUn negO (dK (.int 1)))) (dNil))))))) (dEx (dCall F_holders (dCons (dVar 0) (dCons (dVar 1) (dCons (dVar 2) (dCons (dVar 3) (dNil))))))))
noncomputable def b_l_refusal : DS := dSeq (dAsg (dK (.str "")) (gNm 5)) (dSeq (dTryM b_l_refusal_4 [([("BadCrew", false), ("BadLine", false), ("BadName", false), ("BadRanking", true), ("BadScheme", false), ("BadYard", false), ("DuplicateName", false)], none, x_l_refusal_1), ([("BadCrew", false), ("BadLine", false), ("BadName", false), ("BadRanking", false), ("BadScheme", false), ("BadYard", true), ("DuplicateName", false)], none, x_l_refusal_2), ([("BadCrew", true), ("BadLine", true), ("BadName", true), ("BadRanking", true), ("BadScheme", true), ("BadYard", true), ("DuplicateName", true)], none, x_l_refusal_3)]) (dRet (dVar 5)))
noncomputable def F_l_refusal : DF := runF 5 6 true b_l_refusal
def d_l_refusal : He.DefD := ⟨("_law_refusal", none), "_law_refusal", "_law_refusal", defArgs s_l_refusal, defBody s_l_refusal, defScope s_l_refusal, [], []⟩
abbrev s_l_refuses : Stmt := top 63
noncomputable def b_l_refuses_1 : DS := dSeq (dAsg (dVar 6) (gNm 10)) (dSeq (dIf (dTru (dBin eqO (dVar 9) (dK (.int 2)))) (dAsg (dVar 7) (gNm 10)) (dSkip)) (dSeq (dIf (dTru (dBin neO (dCall F_l_refusal (dCons (dVar 1) (dCons (dVar 2) (dCons (dAp listF (dCons (dVar 5) (dNil))) (dCons (dAp listF (dCons (dVar 4) (dNil))) (dCons (dVar 9) (dNil))))))) (dK (.str "ranking")))) (dRet (dK (.bl false))) (dSkip)) (dSeq (dIf (dTru (dBin neO (dCall F_l_refusal (dCons (dVar 1) (dCons (dVar 2) (dCons (dAp listF (dCons (dVar 5) (dNil))) (dCons (dAp listF (dCons (dVar 10) (dNil))) (dCons (dVar 9) (dNil))))))) (dK (.str "ranking")))) (dRet (dK (.bl false))) (dSkip)) (dSeq (dIf (dTru (dBin neO (dCall F_l_refusal (dCons (dVar 1) (dCons (dVar 2) (dCons (dAp listF (dCons (dVar 3) (dNil))) (dCons (dAp listF (dCons (dVar 10) (dNil))) (dCons (dVar 9) (dNil))))))) (dK (.str "yard")))) (dRet (dK (.bl false))) (dSkip)) (dIf (dTru (dBin neO (dCall F_l_refusal (dCons (dVar 1) (dCons (dVar 2) (dCons (dAp listF (dCons (dVar 3) (dNil))) (dCons (dAp listF (dCons (dVar 4) (dNil))) (dCons (dVar 9) (dNil))))))) (dK (.str "")))) (dRet (dK (.bl false))) (dSkip))))))
noncomputable def b_l_refuses : DS := dSeq (dAsg (dCall F_l_bad_ranking (dCons (dVar 0) (dCons (dVar 3) (dNil)))) (gNm 5)) (dSeq (dAsg (dAp listO (dCons (dVar 4) (dNil))) (gNm 6)) (dSeq (dLPut (dCall F_l_bad_spot (dCons (dVar 0) (dCons (dAp lenO (dCons (dVar 3) (dNil))) (dNil)))) (dVar 6) (dUn negO (dK (.int 1)))) (dSeq (dAsg (dAp listO (dCons (dVar 6) (dNil))) (gNm 7)) (dSeq (dAsg (dBM isLst popO (dVar 7) dNil) (gNm 8)) (dSeq (dEx (dBM isLst insertO (dVar 7) (dCons (dCall F_l_draw (dCons (dVar 0) (dCons (dBin addF (dAp lenO (dCons (dVar 7) (dNil))) (dK (.int 1))) (dNil)))) (dCons (dVar 8) (dNil))))) (dSeq (dForR1 (dCons (dK (.int 3)) (dNil)) (gNm 9) b_l_refuses_1) (dRet (dK (.bl true)))))))))
noncomputable def F_l_refuses : DF := runF 5 11 true b_l_refuses
def d_l_refuses : He.DefD := ⟨("_law_refuses", none), "_law_refuses", "_law_refuses", defArgs s_l_refuses, defBody s_l_refuses, defScope s_l_refuses, [], []⟩
abbrev s_l_takes_alike : Stmt := top 64
noncomputable def b_l_takes_alike : DS := dSeq (dAsg (dAp lstF (dCons (dK (.str "a")) (dCons (dK (.str "b")) (dCons (dK (.str "any")) (dCons (dK (.str "c")) (dNil)))))) (gNm 3)) (dSeq (dAsg (dBin ixO (dVar 3) (dCall F_l_draw (dCons (dVar 0) (dCons (dK (.int 4)) (dNil))))) (gNm 4)) (dSeq (dAsg (dLcR1Z (dCons (dCall F_l_draw (dCons (dVar 0) (dCons (dK (.int 6)) (dNil)))) (dNil)) 8 (dYes) (dBin ixO (dVar 3) (dCall F_l_draw (dCons (dVar 0) (dCons (dK (.int 4)) (dNil)))))) (gNm 5)) (dSeq (dAsg (dAp listF (dCons (dVar 5) (dNil))) (gNm 6)) (dSeq (dAsg (dMeth "takes" mt_takes (dVar 1) (dCons (dVar 4) (dCons (dVar 6) (dNil)))) (gNm 7)) (dSeq (dIf (dOr (dNot (dTru (dUn (isiO "bool") (dVar 7)))) (dTru (dBin neO (dVar 6) (dVar 5)))) (dRet (dK (.bl false))) (dSkip)) (dRet (dBin eqO (dVar 7) (dCall F_l_takes (dCons (dVar 2) (dCons (dVar 4) (dCons (dVar 5) (dNil))))))))))))
noncomputable def F_l_takes_alike : DF := runF 3 9 true b_l_takes_alike
def d_l_takes_alike : He.DefD := ⟨("_law_takes_alike", none), "_law_takes_alike", "_law_takes_alike", defArgs s_l_takes_alike, defBody s_l_takes_alike, defScope s_l_takes_alike, [], []⟩
abbrev s_law : Stmt := top 65
noncomputable def b_law_1 : DS := dIf (dNot (dTru (dCall F_l_yard_fits (dCons (dVar 5) (dCons (dVar 6) (dCons (dVar 3) (dCons (dVar 4) (dCons (dVar 7) (dCons (dVar 8) (dCons (dVar 10) (dNil))))))))))) (dRet (dK (.bl false))) (dSkip)
noncomputable def b_law_2 : DS := dSeq (dAsg (dLcLZ (dVar 7) 14 (dTru (dBin inO (dVar 14) (dVar 10))) (dVar 14)) (gNm 13)) (dEx (dBM isLst appendO (dVar 11) (dCons (dCall F_l_first (dCons (dCall F_l_steps (dCons (dVar 3) (dCons (dVar 4) (dCons (dVar 13) (dNil))))) (dNil))) (dNil))))
noncomputable def b_law : DS := dSeq (dAsg (dCall F_l_stream (dCons (dVar 0) (dNil))) (gNm 1)) (dSeq (dAsg (dCall F_l_size (dCons (dVar 1) (dNil))) (gNm 2)) (dSeq (dAsg (dCall F_l_makes (dCons (dVar 1) (dCons (dVar 2) (dNil)))) (gNm 3)) (dSeq (dAsg (dCall F_l_rules (dCons (dVar 1) (dNil))) (gNm 4)) (dSeq (dAsg (dNew "Crew" F_Crew_init (dCons (dCall F_l_workers (dCons (dVar 3) (dCons (dCall F_l_draw (dCons (dVar 1) (dCons (dK (.int 6)) (dNil)))) (dNil)))) (dNil))) (gNm 5)) (dSeq (dAsg (dNew "Scheme" F_Scheme_init (dCons (dAp listF (dCons (dVar 4) (dNil))) (dNil))) (gNm 6)) (dSeq (dAsg (dCall F_l_ranking (dCons (dVar 1) (dCons (dVar 2) (dNil)))) (gNm 7)) (dSeq (dAsg (dCall F_l_ranking (dCons (dVar 1) (dCons (dVar 2) (dNil)))) (gNm 8)) (dSeq (dAsg (dCall F_l_spots (dCons (dVar 1) (dCons (dVar 2) (dCons (dBin addF (dK (.int 1)) (dCall F_l_draw (dCons (dVar 1) (dCons (dK (.int 4)) (dNil))))) (dNil))))) (gNm 9)) (dSeq (dForL (dVar 9) (gNm 10) b_law_1) (dSeq (dAsg (dAp lstO (dNil)) (gNm 11)) (dSeq (dForL (dVar 9) (gNm 10) b_law_2) (dSeq (dAsg (dCall F_holders (dCons (dVar 5) (dCons (dVar 6) (dCons (dAp listF (dCons (dVar 7) (dNil))) (dCons (dAp listF (dCons (dVar 9) (dNil))) (dNil)))))) (gNm 12)) (dSeq (dIf (dOr (dNot (dTru (dUn (isiO "list") (dVar 12)))) (dTru (dBin neO (dVar 12) (dVar 11)))) (dRet (dK (.bl false))) (dSkip)) (dSeq (dIf (dNot (dTru (dCall F_l_refuses (dCons (dVar 1) (dCons (dVar 5) (dCons (dVar 6) (dCons (dVar 7) (dCons (dVar 9) (dNil))))))))) (dRet (dK (.bl false))) (dSkip)) (dRet (dCall F_l_takes_alike (dCons (dVar 1) (dCons (dVar 6) (dCons (dVar 4) (dNil))))))))))))))))))))
noncomputable def F_law : DF := runF 1 15 true b_law
def d_law : He.DefD := ⟨("law", none), "law", "law", defArgs s_law, defBody s_law, defScope s_law, [], []⟩
def defs : List He.DefD := ((d_l_stream) :: (d_l_draw) :: (d_l_size) :: (d_l_makes) :: (d_l_group) :: (d_l_rule) :: (d_l_rules) :: (d_is_name) :: (d_check_name) :: (d_Crew_has) :: (d_Crew_init) :: (d_l_workers) :: (d_Scheme_init) :: (d_l_ranking) :: (d_l_spot) :: (d_l_spots) :: (d_l_in_group) :: (d_l_takes) :: (d_l_steps) :: (d_l_first) :: (d_present) :: (d_l_same_steps) :: (d_Crew_len) :: (d_Scheme_len) :: (d_check_ranking) :: (d_check_yards) :: (d_Crew_make_of) :: (d_belongs) :: (d_bound_holds) :: (d_Scheme_takes) :: (d_walked) :: (d_walk) :: (d_l_is_worker) :: (d_first_taken) :: (d_holder) :: (d_l_rearranged) :: (d_l_toggled) :: (d_l_yard_fits) :: (d_holders) :: (d_l_bad_ranking) :: (d_l_bad_spot) :: (d_l_refusal) :: (d_l_refuses) :: (d_l_takes_alike) :: (d_law) :: [])
def cdefs : List DefC := [d_BadName_init, d_DuplicateName_init]
def gdefs : List DefG := []
def frees : List Str := ["super", "abs", "int", "range", "enumerate", "len", "tuple", "isinstance", "str", "list", "bool", "sorted", "set", "all"]
def glos : List Str := (("_law_stream") :: ("_law_draw") :: ("_law_size") :: ("_law_makes") :: ("_law_group") :: ("_law_rule") :: ("_law_rules") :: ("Crew") :: ("Scheme") :: ("BadCrew") :: ("is_name") :: ("BadName") :: ("check_name") :: ("DuplicateName") :: ("_law_workers") :: ("BadScheme") :: ("_law_ranking") :: ("_law_spot") :: ("_law_spots") :: ("_law_in_group") :: ("_law_takes") :: ("_law_steps") :: ("_law_first") :: ("present") :: ("BadRanking") :: ("check_ranking") :: ("BadYard") :: ("check_yards") :: ("belongs") :: ("bound_holds") :: ("walked") :: ("walk") :: ("_law_same_steps") :: ("first_taken") :: ("holder") :: ("_law_is_worker") :: ("_law_rearranged") :: ("_law_toggled") :: ("_law_yard_fits") :: ("holders") :: ("_law_bad_ranking") :: ("_law_bad_spot") :: ("BadLine") :: ("MovedError") :: ("_law_refusal") :: ("_law_refuses") :: ("_law_takes_alike") :: ("law") :: [])
def fas0 : List He.Fa := ((.cls "Scheme") :: (.cls "Crew") :: (.exc "BadCrew") :: (.noat "Crew" "_workers") :: (.str "LETTERS" "abcdefghijklmnopqrstuvwxyz") :: (.int "LONGEST_NAME" 8) :: (.meth "Crew" "_has") :: (.mkr "Crew") :: (.noat "Scheme" "rules") :: (.exc "BadScheme") :: (.mkr "Scheme") :: (.meth "Scheme" "__len__") :: (.meth "Crew" "__len__") :: (.exc "BadRanking") :: (.exc "BadYard") :: (.meth "Crew" "make_of") :: (.meth "Scheme" "takes") :: (.exm "DuplicateName" "BadRanking" false) :: (.exm "BadYard" "BadRanking" false) :: (.exm "BadScheme" "BadRanking" false) :: (.exm "BadRanking" "BadRanking" true) :: (.exm "BadName" "BadRanking" false) :: (.exm "BadLine" "BadRanking" false) :: (.exm "BadCrew" "BadRanking" false) :: (.exm "DuplicateName" "BadYard" false) :: (.exm "BadYard" "BadYard" true) :: (.exm "BadScheme" "BadYard" false) :: (.exm "BadRanking" "BadYard" false) :: (.exm "BadName" "BadYard" false) :: (.exm "BadLine" "BadYard" false) :: (.exm "BadCrew" "BadYard" false) :: (.exm "DuplicateName" "MovedError" true) :: (.exm "BadYard" "MovedError" true) :: (.exm "BadScheme" "MovedError" true) :: (.exm "BadRanking" "MovedError" true) :: (.exm "BadName" "MovedError" true) :: (.exm "BadLine" "MovedError" true) :: (.exm "BadCrew" "MovedError" true) :: [])
def fas : List He.Fa := fas0 ++ (frees.map He.Fa.free ++ glos.map He.Fa.glo)
def cks : List Ck := [.opq, .any fun K => conB K "Scheme" "MOST" (.int 4), .any fun K => conB K "Crew" "MOST" (.int 6), .xcls "BadName", .xini "BadName" "name", .xat "BadName", .same "Crew" "Crew" "_has", .xcls "DuplicateName", .xini "DuplicateName" "name", .xat "DuplicateName", .any fun K => conB K "Scheme" "MOST_BOUNDS" (.int 3), .same "Scheme" "Scheme" "__len__", .same "Crew" "Crew" "__len__", .same "Crew" "Crew" "make_of", .same "Scheme" "Scheme" "takes"]
def want : Wants := { fa := fas, ck := cks, fn := defs, cf := cdefs, file := PySem.Challenge.pw_movedstates_k48_holder_by_its_lineup.main.file, gf := gdefs }
structure Tp (P : Program) (K : PySem.W.Frag) (mg : Str → Option Value) (base : Heap) : Prop where
  says : ∃ h, SaysM want K h
  free_ : ∀ (i : Nat) (x : Str), frees[i]? = some x → mg x = none
  glo_ : ∀ (i : Nat) (x : Str), glos[i]? = some x → mg x = some (.ref (He.ga K x))
  tabs : ∀ t ∈ tabsAll K, LamX.TabB base mg t.1 t.2.1
  file : ((P.main.file : Str) == want.file) = true
  ns : ∃ h, K.In h ∧ h.Ns mainGlobals mg
  sup : (P.main.scope.names.lookup ("super" : Str)).isSome = false
section
variable {P : Program} {w : World} {K : PySem.W.Frag} {mg : Str → Option Value} {base : Heap}
theorem Tp.free (T : Tp P K mg base) (i : Nat) {x : Str} (h : frees[i]? = some x := by rfl) : mg x = none := T.free_ i x h
theorem Tp.glo (T : Tp P K mg base) (i : Nat) {x : Str} (h : glos[i]? = some x := by rfl) : mg x = some (.ref (He.ga K x)) := T.glo_ i x h
theorem Tp.fn (T : Tp P K mg base) (i : Nat) (d : He.DefD) (e : defs[i]? = some d) : ∃ fd, FunD K d.name d.qual d.params d.body d.scope (d.dvs K) (d.kws K) (He.fAd K d.at_) fd := let ⟨_, s⟩ := T.says; s.d.def_ i e
theorem Tp.fac (T : Tp P K mg base) (i : Nat) {f : He.Fa} (e : fas[i]? = some f := by rfl) : f.ok K = true := let ⟨_, s⟩ := T.says; s.d.fact i e
theorem Tp.scaS (T : Tp P K mg base) (i : Nat) {x z : Str} (e : fas[i]? = some (.str x z) := by rfl) : ∃ t, mg x = some (.str z t) := let ⟨_, k, n⟩ := T.ns; He.str_ok k n (T.fac i e)
theorem Tp.scaI (T : Tp P K mg base) (i : Nat) {x : Str} {z : Int} (e : fas[i]? = some (.int x z) := by rfl) : ∃ t, mg x = some (.int z t) := let ⟨_, k, n⟩ := T.ns; He.int_ok k n (T.fac i e)
theorem Tp.ckf (T : Tp P K mg base) (i : Nat) {c : Ck} (e : cks[i]? = some c := by rfl) : c.ok K = true := let ⟨_, s⟩ := T.says; s.ckf i e
theorem Tp.fnc (T : Tp P K mg base) (i : Nat) (d : DefC) (e : cdefs[i]? = some d) {par : Str} (hp : ∃ ar, (d.params.posonlyargs ++ d.params.args).head? = some ar ∧ ar.arg = par) : ∃ fd cda cc, FunC K P mg d.name d.qual d.params d.body d.scope par (He.ga K d.cls) (He.fAd K d.at_) fd cda cc ∧ ∃ oc od osl, K.lookup (He.fAd K d.at_) = some ⟨oc, od, .func fd, osl⟩ :=
  let ⟨_, s⟩ := T.says; let ⟨e1, e2⟩ := s.fnc i e; DefC.funC e1 e2 T.file (opq_ok (T.ckf 0)) T.sup (T.free 0) hp
theorem Tp.tab (T : Tp P K mg base) {d : DefC} {fd : FuncData} {cda : Addr} (h : fd.qualname = d.qual ∧ fd.code = .ref cda ∧ ∃ oc od osl, K.lookup (He.fAd K d.at_) = some ⟨oc, od, .func fd, osl⟩) (hl : lamDefs.contains d.qual = true) (hc : (Ck.tab d.at_).ok K = true) :
    ∃ P, LamX.TabB base mg cda P ∧ (P, d.qual ++ ".<locals>." ++ "<lambda>") ∈ tabsOf K ∧ ∀ p ∈ tabsOf K, p.1 = P → p.2 = d.qual ++ ".<locals>." ++ "<lambda>" := by
  obtain ⟨_, s⟩ := T.says
  exact tab_at h hl hc T.tabs fun t ht => (s.th t ht).2.2.2
theorem xok_BadName (T : Tp P K mg base) : XOk P K mg "BadName" "BadName" "name" :=
  xok_of (d := d_BadName_init) (f := "name") (T.fnc 0 d_BadName_init rfl ⟨_, rfl, rfl⟩) rfl rfl rfl ⟨rfl, rfl, rfl, by decide +kernel, rfl, rfl, rfl, rfl, by decide, by decide⟩ (T.ckf 3) (T.ckf 4) (T.ckf 5) (T.glo 11) (fun _ => rfl) (fun _ _ _ _ _ _ _ _ _ _ => .of_eq rfl)
theorem xok_DuplicateName (T : Tp P K mg base) : XOk P K mg "DuplicateName" "DuplicateName" "name" :=
  xok_of (d := d_DuplicateName_init) (f := "name") (T.fnc 1 d_DuplicateName_init rfl ⟨_, rfl, rfl⟩) rfl rfl rfl ⟨rfl, rfl, rfl, by decide +kernel, rfl, rfl, rfl, rfl, by decide, by decide⟩ (T.ckf 7) (T.ckf 8) (T.ckf 9) (T.glo 13) (fun _ => rfl) (fun _ _ _ _ _ _ _ _ _ _ => .of_eq rfl)
theorem sc_l_stream : FnScope ["_law_script", "_law_pairs", "_law_at", "_law_cell", "_law_rest", "_law_k"] ["_law_script"] (defScope s_l_stream) := ⟨rfl, rfl, rfl, by decide +kernel, rfl, by decide +kernel, by decide +kernel⟩
theorem ok_l_stream (T : Tp P K mg base) : Okd P w K mg base 1 ("_law_stream", none) ["_law_script"] F_l_stream :=
  okd_of (k := 0) (d := d_l_stream) (N := ["_law_script", "_law_pairs", "_law_at", "_law_cell", "_law_rest", "_law_k"]) rfl rfl (T.fn 0 d_l_stream rfl) sc_l_stream rfl rfl (fun _ _ _ _ _ _ us hl => match us, hl with | [_], _ => rfl) fun f cdv A outer s H E hr hp tk =>
    ds_cons (ds_set (i := 1) sc_l_stream.nd (de_lst (da_nil)))
    (ds_cons (ds_forE hp rfl (by rfl) (T.free 4) (da_cons (de_sl (de_var 0) (do_none) (do_some (de_int))) (da_nil)) (dg_tup rfl (dgs_cons (dg_name (i := 2) sc_l_stream.nd) (dgs_cons (dg_name (i := 3) sc_l_stream.nd) (dgs_nil)))) (ds_cons (ds_set (i := 4) sc_l_stream.nd (de_callB c_abs (by rfl) (T.free 1) bt_abs (da_cons (de_var 3) (da_nil))))
    (ds_cons (ds_if (dt_cmp o_lt (de_var 4) (de_int)) (ds_cons (ds_set (i := 4) sc_l_stream.nd (de_bin o_mod (de_callTy c_int1 (by rfl) (T.free 2) bt_int (da_cons (de_bin o_mul (de_var 4) (de_bin o_add (de_bin o_add (de_int) (de_bin o_mul (de_int) (de_var 2))) (de_callTy c_int1 (by rfl) (T.free 2) bt_int (da_cons (de_cmp o_lt (de_var 3) (de_int)) (da_nil))))) (da_nil))) (de_int)))
    (ds_one (ds_set (i := 4) sc_l_stream.nd (de_bin o_mod (de_callTy c_int1 (by rfl) (T.free 2) bt_int (da_cons (de_bin o_mul (de_var 4) (de_bin o_add (de_var 4) (de_int))) (da_nil))) (de_int))))) (ds_nil))
    (ds_one (ds_forR1 hp rfl (by rfl) (T.free 3) (da_cons (de_int) (da_nil)) (dg_name (i := 5) sc_l_stream.nd) (ds_cons (ds_expr (de_append (de_var 1) (da_cons (de_bin o_mod (de_callTy c_int1 (by rfl) (T.free 2) bt_int (da_cons (de_var 4) (da_nil))) (de_int)) (da_nil))))
    (ds_cons (ds_set (i := 4) sc_l_stream.nd (de_bin o_fdiv (de_var 4) (de_int)))
    (ds_one (ds_if (dt_cmp (o_eq hr.u64) (de_var 4) (de_int)) (ds_one (ds_brk)) (ds_nil))))))))))
    (ds_cons (ds_expr (de_reverse (de_var 1)))
    (ds_one (ds_ret (de_var 1)))))
theorem sc_l_draw : FnScope ["_law_stream_here", "_law_many"] ["_law_stream_here", "_law_many"] (defScope s_l_draw) := ⟨rfl, rfl, rfl, by decide +kernel, rfl, by decide +kernel, by decide +kernel⟩
theorem ok_l_draw (T : Tp P K mg base) : Okd P w K mg base 1 ("_law_draw", none) ["_law_stream_here", "_law_many"] F_l_draw :=
  okd_of (k := 0) (d := d_l_draw) (N := ["_law_stream_here", "_law_many"]) rfl rfl (T.fn 1 d_l_draw rfl) sc_l_draw rfl rfl (fun _ _ _ _ _ _ us hl => match us, hl with | [_, _], _ => rfl) fun f cdv A outer s H E hr hp tk =>
    ds_cons (ds_if (dt_cmp (o_eq hr.u64) (de_callB c_len (by rfl) (T.free 5) bt_len (da_cons (de_var 0) (da_nil))) (de_int)) (ds_one (ds_ret (de_int))) (ds_nil))
    (ds_one (ds_ret (de_bin o_mod (de_callTy c_int1 (by rfl) (T.free 2) bt_int (da_cons (de_pop0 (de_var 0)) (da_nil))) (de_var 1))))
theorem sc_l_size : FnScope ["_law_stream_here"] ["_law_stream_here"] (defScope s_l_size) := ⟨rfl, rfl, rfl, by decide +kernel, rfl, by decide +kernel, by decide +kernel⟩
theorem ok_l_size (T : Tp P K mg base) : Okd P w K mg base 2 ("_law_size", none) ["_law_stream_here"] F_l_size :=
  okd_of (k := 1) (d := d_l_size) (N := ["_law_stream_here"]) rfl rfl (T.fn 2 d_l_size rfl) sc_l_size rfl rfl (fun _ _ _ _ _ _ us hl => match us, hl with | [_], _ => rfl) fun f cdv A outer s H E hr hp tk =>
    ds_one (ds_ret (de_ix i_ix (de_lstF (da_cons (de_int) (da_cons (de_int) (da_cons (de_int) (da_cons (de_int) (da_cons (de_int) (da_cons (de_int) (da_cons (de_int) (da_cons (de_int) (da_cons (de_int) (da_cons (de_int) (da_nil)))))))))))) (de_callG tk (ok_l_draw T) hr (T.glo 1) (da_cons (de_var 0) (da_cons (de_int) (da_nil))))))
theorem sc_l_makes : FnScope ["_law_stream_here", "_law_size_here", "_law_makes_here", "_law_worker"] ["_law_stream_here", "_law_size_here"] (defScope s_l_makes) := ⟨rfl, rfl, rfl, by decide +kernel, rfl, by decide +kernel, by decide +kernel⟩
theorem ok_l_makes (T : Tp P K mg base) : Okd P w K mg base 2 ("_law_makes", none) ["_law_stream_here", "_law_size_here"] F_l_makes :=
  okd_of (k := 1) (d := d_l_makes) (N := ["_law_stream_here", "_law_size_here", "_law_makes_here", "_law_worker"]) rfl rfl (T.fn 3 d_l_makes rfl) sc_l_makes rfl rfl (fun _ _ _ _ _ _ us hl => match us, hl with | [_, _], _ => rfl) fun f cdv A outer s H E hr hp tk =>
    ds_cons (ds_set (i := 2) sc_l_makes.nd (de_lst (da_nil)))
    (ds_cons (ds_forR1 hp rfl (by rfl) (T.free 3) (da_cons (de_var 1) (da_nil)) (dg_name (i := 3) sc_l_makes.nd) (ds_one (ds_expr (de_append (de_var 2) (da_cons (de_ix i_ix (de_lstF (da_cons (de_str) (da_cons (de_str) (da_cons (de_str) (da_cons (de_str) (da_cons (de_str) (da_nil))))))) (de_callG tk (ok_l_draw T) hr (T.glo 1) (da_cons (de_var 0) (da_cons (de_int) (da_nil))))) (da_nil))))))
    (ds_one (ds_ret (de_var 2))))
theorem sc_l_group : FnScope ["_law_stream_here", "_law_pick"] ["_law_stream_here"] (defScope s_l_group) := ⟨rfl, rfl, rfl, by decide +kernel, rfl, by decide +kernel, by decide +kernel⟩
theorem ok_l_group (T : Tp P K mg base) : Okd P w K mg base 2 ("_law_group", none) ["_law_stream_here"] F_l_group :=
  okd_of (k := 1) (d := d_l_group) (N := ["_law_stream_here", "_law_pick"]) rfl rfl (T.fn 4 d_l_group rfl) sc_l_group rfl rfl (fun _ _ _ _ _ _ us hl => match us, hl with | [_], _ => rfl) fun f cdv A outer s H E hr hp tk =>
    ds_cons (ds_set (i := 1) sc_l_group.nd (de_callG tk (ok_l_draw T) hr (T.glo 1) (da_cons (de_var 0) (da_cons (de_int) (da_nil)))))
    (ds_cons (ds_if (PW.pt (dw_or (dt_cmp (o_eq hr.u64) (de_var 1) (de_int)) (dw_or1 (dt_cmp (o_eq hr.u64) (de_var 1) (de_int))))) (ds_one (ds_ret (de_tup (da_cons (de_str) (da_nil))))) (ds_nil))
    (ds_one (ds_ret (de_tup (da_cons (de_str) (da_cons (de_ix i_ix (de_lstF (da_cons (de_str) (da_cons (de_str) (da_cons (de_str) (da_cons (de_str) (da_nil)))))) (de_bin o_sub (de_var 1) (de_int))) (da_nil)))))))
theorem sc_l_rule : FnScope ["_law_stream_here", "_law_group_here", "_law_bounds", "_law_turn", "_law_seen", "_law_sign"] ["_law_stream_here"] (defScope s_l_rule) := ⟨rfl, rfl, rfl, by decide +kernel, rfl, by decide +kernel, by decide +kernel⟩
theorem ok_l_rule (T : Tp P K mg base) : Okd P w K mg base 3 ("_law_rule", none) ["_law_stream_here"] F_l_rule :=
  okd_of (k := 2) (d := d_l_rule) (N := ["_law_stream_here", "_law_group_here", "_law_bounds", "_law_turn", "_law_seen", "_law_sign"]) rfl rfl (T.fn 5 d_l_rule rfl) sc_l_rule rfl rfl (fun _ _ _ _ _ _ us hl => match us, hl with | [_], _ => rfl) fun f cdv A outer s H E hr hp tk =>
    ds_cons (ds_set (i := 1) sc_l_rule.nd (de_callG tk (ok_l_group T) hr (T.glo 4) (da_cons (de_var 0) (da_nil))))
    (ds_cons (ds_set (i := 2) sc_l_rule.nd (de_lst (da_nil)))
    (ds_cons (ds_forR1 hp rfl (by rfl) (T.free 3) (da_cons (de_ix i_ix (de_lstF (da_cons (de_int) (da_cons (de_int) (da_cons (de_int) (da_cons (de_int) (da_cons (de_int) (da_cons (de_int) (da_cons (de_int) (da_cons (de_int) (da_nil)))))))))) (de_callG tk (ok_l_draw T) hr (T.glo 1) (da_cons (de_var 0) (da_cons (de_int) (da_nil))))) (da_nil)) (dg_name (i := 3) sc_l_rule.nd) (ds_cons (ds_set (i := 4) sc_l_rule.nd (de_callG tk (ok_l_group T) hr (T.glo 4) (da_cons (de_var 0) (da_nil))))
    (ds_cons (ds_set (i := 5) sc_l_rule.nd (de_ix i_ix (de_lstF (da_cons (de_str) (da_cons (de_str) (da_nil)))) (de_callG tk (ok_l_draw T) hr (T.glo 1) (da_cons (de_var 0) (da_cons (de_int) (da_nil))))))
    (ds_one (ds_expr (de_append (de_var 2) (da_cons (de_tup (da_cons (de_var 4) (da_cons (de_var 5) (da_cons (de_ix i_ix (de_lstF (da_cons (de_int) (da_cons (de_int) (da_cons (de_int) (da_cons (de_int) (da_cons (de_int) (da_cons (de_int) (da_cons (de_int) (da_cons (de_int) (da_nil)))))))))) (de_callG tk (ok_l_draw T) hr (T.glo 1) (da_cons (de_var 0) (da_cons (de_int) (da_nil))))) (da_nil))))) (da_nil))))))))
    (ds_one (ds_ret (de_tup (da_cons (de_var 1) (da_cons (de_callTy c_tuple (by rfl) (T.free 6) bt_tuple (da_cons (de_var 2) (da_nil))) (da_nil))))))))
theorem sc_l_rules : FnScope ["_law_stream_here", "_law_rules_here", "_law_turn"] ["_law_stream_here"] (defScope s_l_rules) := ⟨rfl, rfl, rfl, by decide +kernel, rfl, by decide +kernel, by decide +kernel⟩
theorem ok_l_rules (T : Tp P K mg base) : Okd P w K mg base 4 ("_law_rules", none) ["_law_stream_here"] F_l_rules :=
  okd_of (k := 3) (d := d_l_rules) (N := ["_law_stream_here", "_law_rules_here", "_law_turn"]) rfl rfl (T.fn 6 d_l_rules rfl) sc_l_rules rfl rfl (fun _ _ _ _ _ _ us hl => match us, hl with | [_], _ => rfl) fun f cdv A outer s H E hr hp tk =>
    ds_cons (ds_set (i := 1) sc_l_rules.nd (de_lst (da_nil)))
    (ds_cons (ds_forR1 hp rfl (by rfl) (T.free 3) (da_cons (de_ix i_ix (de_lstF (da_cons (de_int) (da_cons (de_int) (da_cons (de_int) (da_cons (de_int) (da_cons (de_int) (da_cons (de_int) (da_cons (de_int) (da_cons (de_int) (da_cons (de_int) (da_cons (de_int) (da_nil)))))))))))) (de_callG tk (ok_l_draw T) hr (T.glo 1) (da_cons (de_var 0) (da_cons (de_int) (da_nil))))) (da_nil)) (dg_name (i := 2) sc_l_rules.nd) (ds_one (ds_expr (de_append (de_var 1) (da_cons (de_callG tk (ok_l_rule T) hr (T.glo 5) (da_cons (de_var 0) (da_nil))) (da_nil))))))
    (ds_one (ds_ret (de_var 1))))
theorem sc_is_name : FnScope ["text", "char"] ["text"] (defScope s_is_name) := ⟨rfl, rfl, rfl, by decide +kernel, rfl, by decide +kernel, by decide +kernel⟩
theorem ok_is_name (T : Tp P K mg base) : Okd P w K mg base 1 ("is_name", none) ["text"] F_is_name :=
  okd_of (k := 0) (d := d_is_name) (N := ["text", "char"]) rfl rfl (T.fn 7 d_is_name rfl) sc_is_name rfl rfl (fun _ _ _ _ _ _ us hl => match us, hl with | [_], _ => rfl) fun f cdv A outer s H E hr hp tk =>
    ds_cons (ds_if (dt_not (dt_tru (de_isi (by rfl) (T.free 7) (by rfl) (T.free 8) bt_str (de_var 0)))) (ds_one (ds_ret (de_bl))) (ds_nil))
    (ds_cons (ds_forS hp rfl (de_var 0) (dg_name (i := 1) sc_is_name.nd) (ds_one (ds_if (dt_cmp o_ninS (de_var 1) (de_strG (T.scaS 4))) (ds_one (ds_ret (de_bl))) (ds_nil))))
    (ds_one (ds_ret (de_and (de_cmp (o_ne hr.u64) (de_var 0) (de_str)) (de_one (de_cmp o_le (de_callB c_len (by rfl) (T.free 5) bt_len (da_cons (de_var 0) (da_nil))) (de_intG (T.scaI 5))))))))
theorem sc_check_name : FnScope ["text"] ["text"] (defScope s_check_name) := ⟨rfl, rfl, rfl, by decide +kernel, rfl, by decide +kernel, by decide +kernel⟩
theorem ok_check_name (T : Tp P K mg base) : Okd P w K mg base 3 ("check_name", none) ["text"] F_check_name :=
  okd_of (k := 2) (d := d_check_name) (N := ["text"]) rfl rfl (T.fn 8 d_check_name rfl) sc_check_name rfl rfl (fun _ _ _ _ _ _ us hl => match us, hl with | [_], _ => rfl) fun f cdv A outer s H E hr hp tk =>
    ds_one (ds_if (dt_not (dt_tru (de_callG tk (ok_is_name T) hr (T.glo 10) (da_cons (de_var 0) (da_nil))))) (ds_one (ds_raise rfl (xok_BadName T) hr tk (da_cons (de_var 0) (da_nil)) (by rfl))) (ds_nil))
theorem sc_Crew_has : FnScope ["self", "name", "row"] ["self", "name"] (defScope s_Crew_has) := ⟨rfl, rfl, rfl, by decide +kernel, rfl, by decide +kernel, by decide +kernel⟩
theorem ok_Crew_has (T : Tp P K mg base) : Okd P w K mg base 1 ("Crew", some "_has") ["self", "name"] F_Crew_has :=
  okd_of (k := 0) (d := d_Crew_has) (N := ["self", "name", "row"]) rfl rfl (T.fn 9 d_Crew_has rfl) sc_Crew_has rfl rfl (fun _ _ _ _ _ _ us hl => match us, hl with | [_, _], _ => rfl) fun f cdv A outer s H E hr hp tk =>
    ds_one (ds_ret (de_cmp (o_in hr.u65) (de_var 1) (de_lcCZ rfl sc_Crew_has.nd (de_fld (cs_cons ⟨He.cls_ok (T.fac 1), He.noat_ok (T.fac 3)⟩ (cs_nil)) (de_var 0)) (blkOk_by (N := ["self", "name", "row"]) (sc := defScope s_Crew_has) (by decide +kernel)) (fun _ _ _ _ _ => pg_name (i := 2) sc_Crew_has.nd rfl (Or.inl rfl)) (fun _ _ _ _ _ => dts_nil) (fun _ _ _ _ _ => de_ix i_ix (de_var 2) (de_int)))))
theorem sc_Crew_init : FnScope ["self", "workers", "name", "make"] ["self", "workers"] (defScope s_Crew_init) := ⟨rfl, rfl, rfl, by decide +kernel, rfl, by decide +kernel, by decide +kernel⟩
theorem ok_Crew_init (T : Tp P K mg base) : Okd P w K mg base 5 ("Crew", some "__init__") ["self", "workers"] F_Crew_init :=
  okd_of (k := 4) (d := d_Crew_init) (N := ["self", "workers", "name", "make"]) rfl rfl (T.fn 10 d_Crew_init rfl) sc_Crew_init rfl rfl (fun _ _ _ _ _ _ us hl => match us, hl with | [_, _], _ => rfl) fun f cdv A outer s H E hr hp tk =>
    ds_cons (ds_if (PW.pt (dw_or (dt_cmp (o_eq hr.u64) (de_callB c_len (by rfl) (T.free 5) bt_len (da_cons (de_var 1) (da_nil))) (de_int)) (dw_or1 (dt_cmp o_gt (de_callB c_len (by rfl) (T.free 5) bt_len (da_cons (de_var 1) (da_nil))) (de_con (tab := ct_MOST) (ctab_cons (conT_of (He.cls_ok (T.fac 1)) (any_ok (T.ckf 2)) (by decide)) (ctab_cons (conT_of (He.cls_ok (T.fac 0)) (any_ok (T.ckf 1)) (by decide)) (ctab_nil))) (de_var 0)))))) (ds_one (ds_raise0 rfl (T.fac 2) (T.glo 9) tk (by rfl))) (ds_nil))
    (ds_cons (ds_setA (cs_cons ⟨He.cls_ok (T.fac 1), He.noat_ok (T.fac 3)⟩ (cs_nil)) (de_lst (da_nil)) (de_var 0))
    (ds_one (ds_for hp rfl (de_var 1) (dg_tup rfl (dgs_cons (dg_name (i := 2) sc_Crew_init.nd) (dgs_cons (dg_name (i := 3) sc_Crew_init.nd) (dgs_nil)))) (ds_cons (ds_expr (de_callG tk (ok_check_name T) hr (T.glo 12) (da_cons (de_var 2) (da_nil))))
    (ds_cons (ds_expr (de_callG tk (ok_check_name T) hr (T.glo 12) (da_cons (de_var 3) (da_nil))))
    (ds_cons (ds_if (dt_tru (de_meth (k := 1) (tab := mt__has) tk (tab_cons (methT_of (ok_Crew_has T) (He.cls_ok (T.fac 1)) (He.meth_ok (T.fac 6)) (same_ok (T.ckf 6))) (tab_nil)) hr (de_var 0) (da_cons (de_var 2) (da_nil)))) (ds_one (ds_raise rfl (xok_DuplicateName T) hr tk (da_cons (de_var 2) (da_nil)) (by rfl))) (ds_nil))
    (ds_one (ds_expr (de_append (de_fld (cs_cons ⟨He.cls_ok (T.fac 1), He.noat_ok (T.fac 3)⟩ (cs_nil)) (de_var 0)) (da_cons (de_tup (da_cons (de_var 2) (da_cons (de_var 3) (da_nil)))) (da_nil)))))))))))
theorem sc_l_workers : FnScope ["_law_makes_here", "_law_turn", "_law_names", "_law_workers_here", "_law_worker"] ["_law_makes_here", "_law_turn"] (defScope s_l_workers) := ⟨rfl, rfl, rfl, by decide +kernel, rfl, by decide +kernel, by decide +kernel⟩
theorem ok_l_workers (T : Tp P K mg base) : Okd P w K mg base 1 ("_law_workers", none) ["_law_makes_here", "_law_turn"] F_l_workers :=
  okd_of (k := 0) (d := d_l_workers) (N := ["_law_makes_here", "_law_turn", "_law_names", "_law_workers_here", "_law_worker"]) rfl rfl (T.fn 11 d_l_workers rfl) sc_l_workers rfl rfl (fun _ _ _ _ _ _ us hl => match us, hl with | [_, _], _ => rfl) fun f cdv A outer s H E hr hp tk =>
    ds_cons (ds_set (i := 2) sc_l_workers.nd (de_lstF (da_cons (de_str) (da_cons (de_str) (da_cons (de_str) (da_cons (de_str) (da_cons (de_str) (da_cons (de_str) (da_nil)))))))))
    (ds_cons (ds_set (i := 3) sc_l_workers.nd (de_lst (da_nil)))
    (ds_cons (ds_forR1 hp rfl (by rfl) (T.free 3) (da_cons (de_callB c_len (by rfl) (T.free 5) bt_len (da_cons (de_var 0) (da_nil))) (da_nil)) (dg_name (i := 4) sc_l_workers.nd) (ds_one (ds_expr (de_append (de_var 3) (da_cons (de_tup (da_cons (de_ix i_ix (de_var 2) (de_bin o_mod (de_callTy c_int1 (by rfl) (T.free 2) bt_int (da_cons (de_bin o_addF (de_bin o_mul (de_var 4) (de_int)) (de_var 1)) (da_nil))) (de_int))) (da_cons (de_ix i_ix (de_var 0) (de_var 4)) (da_nil)))) (da_nil))))))
    (ds_one (ds_ret (de_var 3)))))
theorem sc_Scheme_init : FnScope ["self", "rules", "group", "bounds"] ["self", "rules"] (defScope s_Scheme_init) := ⟨rfl, rfl, rfl, by decide +kernel, rfl, by decide +kernel, by decide +kernel⟩
theorem ok_Scheme_init (T : Tp P K mg base) : Okd P w K mg base 2 ("Scheme", some "__init__") ["self", "rules"] F_Scheme_init :=
  okd_of (k := 1) (d := d_Scheme_init) (N := ["self", "rules", "group", "bounds"]) rfl rfl (T.fn 12 d_Scheme_init rfl) sc_Scheme_init rfl rfl (fun _ _ _ _ _ _ us hl => match us, hl with | [_, _], _ => rfl) fun f cdv A outer s H E hr hp tk =>
    ds_cons (ds_setA (cs_cons ⟨He.cls_ok (T.fac 0), He.noat_ok (T.fac 8)⟩ (cs_nil)) (de_callTy c_listF (by rfl) (T.free 9) bt_list (da_cons (de_var 1) (da_nil))) (de_var 0))
    (ds_cons (ds_if (dt_cmp o_gt (de_callB c_len (by rfl) (T.free 5) bt_len (da_cons (de_fld (cs_cons ⟨He.cls_ok (T.fac 0), He.noat_ok (T.fac 8)⟩ (cs_nil)) (de_var 0)) (da_nil))) (de_con (tab := ct_MOST) (ctab_cons (conT_of (He.cls_ok (T.fac 1)) (any_ok (T.ckf 2)) (by decide)) (ctab_cons (conT_of (He.cls_ok (T.fac 0)) (any_ok (T.ckf 1)) (by decide)) (ctab_nil))) (de_var 0))) (ds_one (ds_raise0 rfl (T.fac 9) (T.glo 15) tk (by rfl))) (ds_nil))
    (ds_one (ds_for hp rfl (de_fld (cs_cons ⟨He.cls_ok (T.fac 0), He.noat_ok (T.fac 8)⟩ (cs_nil)) (de_var 0)) (dg_tup rfl (dgs_cons (dg_name (i := 2) sc_Scheme_init.nd) (dgs_cons (dg_name (i := 3) sc_Scheme_init.nd) (dgs_nil)))) (ds_one (ds_if (dt_cmp o_gt (de_callB c_len (by rfl) (T.free 5) bt_len (da_cons (de_var 3) (da_nil))) (de_con (tab := ct_MOST_BOUNDS) (ctab_cons (conT_of (He.cls_ok (T.fac 0)) (any_ok (T.ckf 10)) (by decide)) (ctab_nil)) (de_var 0))) (ds_one (ds_raise0 rfl (T.fac 9) (T.glo 15) tk (by rfl))) (ds_nil))))))
theorem sc_l_ranking : FnScope ["_law_stream_here", "_law_size_here", "_law_left", "_law_ranking_here", "_law_turn"] ["_law_stream_here", "_law_size_here"] (defScope s_l_ranking) := ⟨rfl, rfl, rfl, by decide +kernel, rfl, by decide +kernel, by decide +kernel⟩
theorem ok_l_ranking (T : Tp P K mg base) : Okd P w K mg base 2 ("_law_ranking", none) ["_law_stream_here", "_law_size_here"] F_l_ranking :=
  okd_of (k := 1) (d := d_l_ranking) (N := ["_law_stream_here", "_law_size_here", "_law_left", "_law_ranking_here", "_law_turn"]) rfl rfl (T.fn 13 d_l_ranking rfl) sc_l_ranking rfl rfl (fun _ _ _ _ _ _ us hl => match us, hl with | [_, _], _ => rfl) fun f cdv A outer s H E hr hp tk =>
    ds_cons (ds_set (i := 2) sc_l_ranking.nd (de_listRg rfl (by rfl) (T.free 9) (by rfl) (T.free 3) (de_var 1)))
    (ds_cons (ds_set (i := 3) sc_l_ranking.nd (de_lst (da_nil)))
    (ds_cons (ds_forR1 hp rfl (by rfl) (T.free 3) (da_cons (de_var 1) (da_nil)) (dg_name (i := 4) sc_l_ranking.nd) (ds_one (ds_expr (de_append (de_var 3) (da_cons (de_pop1 (de_var 2) (da_cons (de_callG tk (ok_l_draw T) hr (T.glo 1) (da_cons (de_var 0) (da_cons (de_callB c_len (by rfl) (T.free 5) bt_len (da_cons (de_var 2) (da_nil))) (da_nil)))) (da_nil))) (da_nil))))))
    (ds_one (ds_ret (de_var 3)))))
theorem sc_l_spot : FnScope ["_law_size_here", "_law_mask", "_law_powers", "_law_at"] ["_law_size_here", "_law_mask"] (defScope s_l_spot) := ⟨rfl, rfl, rfl, by decide +kernel, rfl, by decide +kernel, by decide +kernel⟩
theorem ok_l_spot (T : Tp P K mg base) : Okd P w K mg base 1 ("_law_spot", none) ["_law_size_here", "_law_mask"] F_l_spot :=
  okd_of (k := 0) (d := d_l_spot) (N := ["_law_size_here", "_law_mask", "_law_powers", "_law_at"]) rfl rfl (T.fn 14 d_l_spot rfl) sc_l_spot rfl rfl (fun _ _ _ _ _ _ us hl => match us, hl with | [_, _], _ => rfl) fun f cdv A outer s H E hr hp tk =>
    ds_cons (ds_set (i := 2) sc_l_spot.nd (de_lstF (da_cons (de_int) (da_cons (de_int) (da_cons (de_int) (da_cons (de_int) (da_cons (de_int) (da_cons (de_int) (da_nil)))))))))
    (ds_one (ds_ret (de_callTy c_tuple (by rfl) (T.free 6) bt_tuple (da_cons (de_lcR1Z rfl sc_l_spot.nd (by rfl) (T.free 3) (da_cons (de_var 0) (da_nil)) (blkOk_by (N := ["_law_size_here", "_law_mask", "_law_powers", "_law_at"]) (sc := defScope s_l_spot) (by decide +kernel)) (fun _ _ _ _ _ => pg_name (i := 3) sc_l_spot.nd rfl (Or.inl rfl)) (fun _ _ _ _ _ => dts_one (dt_cmp (o_eq hr.u64) (de_bin o_mod (de_callTy c_int1 (by rfl) (T.free 2) bt_int (da_cons (de_bin o_fdiv (de_var 1) (de_ix i_ix (de_var 2) (de_var 3))) (da_nil))) (de_int)) (de_int))) (fun _ _ _ _ _ => de_var 3)) (da_nil)))))
theorem sc_l_spots : FnScope ["_law_stream_here", "_law_size_here", "_law_many", "_law_full", "_law_powers", "_law_mask", "_law_spots_here", "_law_turn", "_law_pick", "_law_later", "_law_bit"] ["_law_stream_here", "_law_size_here", "_law_many"] (defScope s_l_spots) := ⟨rfl, rfl, rfl, by decide +kernel, rfl, by decide +kernel, by decide +kernel⟩
theorem ok_l_spots (T : Tp P K mg base) : Okd P w K mg base 2 ("_law_spots", none) ["_law_stream_here", "_law_size_here", "_law_many"] F_l_spots :=
  okd_of (k := 1) (d := d_l_spots) (N := ["_law_stream_here", "_law_size_here", "_law_many", "_law_full", "_law_powers", "_law_mask", "_law_spots_here", "_law_turn", "_law_pick", "_law_later", "_law_bit"]) rfl rfl (T.fn 15 d_l_spots rfl) sc_l_spots rfl rfl (fun _ _ _ _ _ _ us hl => match us, hl with | [_, _, _], _ => rfl) fun f cdv A outer s H E hr hp tk =>
    ds_cons (ds_set (i := 3) sc_l_spots.nd (de_ix i_ix (de_lstF (da_cons (de_int) (da_cons (de_int) (da_cons (de_int) (da_cons (de_int) (da_cons (de_int) (da_cons (de_int) (da_nil)))))))) (de_bin o_sub (de_var 1) (de_int))))
    (ds_cons (ds_set (i := 4) sc_l_spots.nd (de_lstF (da_cons (de_int) (da_cons (de_int) (da_cons (de_int) (da_cons (de_int) (da_cons (de_int) (da_cons (de_int) (da_nil)))))))))
    (ds_cons (ds_set (i := 5) sc_l_spots.nd (de_bin o_addF (de_int) (de_callG tk (ok_l_draw T) hr (T.glo 1) (da_cons (de_var 0) (da_cons (de_var 3) (da_nil))))))
    (ds_cons (ds_set (i := 6) sc_l_spots.nd (de_lst (da_cons (de_callG tk (ok_l_spot T) hr (T.glo 17) (da_cons (de_var 1) (da_cons (de_var 5) (da_nil)))) (da_nil))))
    (ds_cons (ds_forR1 hp rfl (by rfl) (T.free 3) (da_cons (de_bin o_sub (de_var 2) (de_int)) (da_nil)) (dg_name (i := 7) sc_l_spots.nd) (ds_cons (ds_set (i := 8) sc_l_spots.nd (de_callG tk (ok_l_draw T) hr (T.glo 1) (da_cons (de_var 0) (da_cons (de_int) (da_nil)))))
    (ds_cons (ds_set (i := 9) sc_l_spots.nd (de_var 5))
    (ds_cons (ds_if (dt_cmp (o_eq hr.u64) (de_var 8) (de_int)) (ds_one (ds_set (i := 9) sc_l_spots.nd (de_bin o_addF (de_int) (de_callG tk (ok_l_draw T) hr (T.glo 1) (da_cons (de_var 0) (da_cons (de_var 3) (da_nil))))))) (ds_one (ds_if (dt_cmp o_gt (de_var 8) (de_int)) (ds_cons (ds_set (i := 10) sc_l_spots.nd (de_ix i_ix (de_var 4) (de_callG tk (ok_l_draw T) hr (T.glo 1) (da_cons (de_var 0) (da_cons (de_var 1) (da_nil))))))
    (ds_cons (ds_set (i := 9) sc_l_spots.nd (de_bin o_addF (de_var 5) (de_var 10)))
    (ds_one (ds_if (dt_cmp (o_eq hr.u64) (de_bin o_mod (de_callTy c_int1 (by rfl) (T.free 2) bt_int (da_cons (de_bin o_fdiv (de_var 5) (de_var 10)) (da_nil))) (de_int)) (de_int)) (ds_one (ds_set (i := 9) sc_l_spots.nd (de_bin o_sub (de_var 5) (de_var 10)))) (ds_nil))))) (ds_nil))))
    (ds_cons (ds_if (dt_cmp o_gt (de_var 9) (de_int)) (ds_one (ds_set (i := 5) sc_l_spots.nd (de_var 9))) (ds_nil))
    (ds_one (ds_expr (de_append (de_var 6) (da_cons (de_callG tk (ok_l_spot T) hr (T.glo 17) (da_cons (de_var 1) (da_cons (de_var 5) (da_nil)))) (da_nil))))))))))
    (ds_one (ds_ret (de_var 6)))))))
theorem sc_l_in_group : FnScope ["_law_group_here", "_law_make"] ["_law_group_here", "_law_make"] (defScope s_l_in_group) := ⟨rfl, rfl, rfl, by decide +kernel, rfl, by decide +kernel, by decide +kernel⟩
theorem ok_l_in_group (T : Tp P K mg base) : Okd P w K mg base 1 ("_law_in_group", none) ["_law_group_here", "_law_make"] F_l_in_group :=
  okd_of (k := 0) (d := d_l_in_group) (N := ["_law_group_here", "_law_make"]) rfl rfl (T.fn 16 d_l_in_group rfl) sc_l_in_group rfl rfl (fun _ _ _ _ _ _ us hl => match us, hl with | [_, _], _ => rfl) fun f cdv A outer s H E hr hp tk =>
    ds_one (ds_ret (de_or (de_cmp (o_eq hr.u64) (de_var 0) (de_tup (da_cons (de_str) (da_nil)))) (de_one (de_cmp (o_eq hr.u64) (de_ix i_ix (de_var 0) (de_int)) (de_var 1)))))
theorem sc_l_takes : FnScope ["_law_rules_here", "_law_make", "_law_seen", "_law_group_here", "_law_bounds", "_law_fits", "_law_bound", "_law_many", "_law_below", "_law_other"] ["_law_rules_here", "_law_make", "_law_seen"] (defScope s_l_takes) := ⟨rfl, rfl, rfl, by decide +kernel, rfl, by decide +kernel, by decide +kernel⟩
theorem ok_l_takes (T : Tp P K mg base) : Okd P w K mg base 2 ("_law_takes", none) ["_law_rules_here", "_law_make", "_law_seen"] F_l_takes :=
  okd_of (k := 1) (d := d_l_takes) (N := ["_law_rules_here", "_law_make", "_law_seen", "_law_group_here", "_law_bounds", "_law_fits", "_law_bound", "_law_many", "_law_below", "_law_other"]) rfl rfl (T.fn 17 d_l_takes rfl) sc_l_takes rfl rfl (fun _ _ _ _ _ _ us hl => match us, hl with | [_, _, _], _ => rfl) fun f cdv A outer s H E hr hp tk =>
    ds_cons (ds_for hp rfl (de_var 0) (dg_tup rfl (dgs_cons (dg_name (i := 3) sc_l_takes.nd) (dgs_cons (dg_name (i := 4) sc_l_takes.nd) (dgs_nil)))) (ds_cons (ds_set (i := 5) sc_l_takes.nd (de_callG tk (ok_l_in_group T) hr (T.glo 19) (da_cons (de_var 3) (da_cons (de_var 1) (da_nil)))))
    (ds_cons (ds_for hp rfl (de_var 4) (dg_name (i := 6) sc_l_takes.nd) (ds_cons (ds_set (i := 7) sc_l_takes.nd (de_callB c_len (by rfl) (T.free 5) bt_len (da_cons (de_lcCZ rfl sc_l_takes.nd (de_var 2) (blkOk_by (N := ["_law_rules_here", "_law_make", "_law_seen", "_law_group_here", "_law_bounds", "_law_fits", "_law_bound", "_law_many", "_law_below", "_law_other"]) (sc := defScope s_l_takes) (by decide +kernel)) (fun _ _ _ _ _ => pg_name (i := 9) sc_l_takes.nd rfl (Or.inl rfl)) (fun _ _ _ _ _ => dts_one (dt_tru (de_callG takes0 (ok_l_in_group T) hr (T.glo 19) (da_cons (de_ix i_ix (de_var 6) (de_int)) (da_cons (de_var 9) (da_nil)))))) (fun _ _ _ _ _ => de_var 9)) (da_nil))))
    (ds_cons (ds_set (i := 8) sc_l_takes.nd (de_cmp (o_eq hr.u64) (de_ix i_ix (de_var 6) (de_int)) (de_str)))
    (ds_one (ds_if (dt_cmp (o_ne hr.u64) (de_var 8) (de_cmp o_lt (de_var 7) (de_ix i_ix (de_var 6) (de_int)))) (ds_one (ds_set (i := 5) sc_l_takes.nd (de_bl))) (ds_nil))))))
    (ds_one (ds_if (dt_tru (de_var 5)) (ds_one (ds_ret (de_bl))) (ds_nil))))))
    (ds_one (ds_ret (de_bl)))
theorem sc_l_steps : FnScope ["_law_makes_here", "_law_rules_here", "_law_lineup", "_law_seen", "_law_steps_here", "_law_worker"] ["_law_makes_here", "_law_rules_here", "_law_lineup"] (defScope s_l_steps) := ⟨rfl, rfl, rfl, by decide +kernel, rfl, by decide +kernel, by decide +kernel⟩
theorem ok_l_steps (T : Tp P K mg base) : Okd P w K mg base 3 ("_law_steps", none) ["_law_makes_here", "_law_rules_here", "_law_lineup"] F_l_steps :=
  okd_of (k := 2) (d := d_l_steps) (N := ["_law_makes_here", "_law_rules_here", "_law_lineup", "_law_seen", "_law_steps_here", "_law_worker"]) rfl rfl (T.fn 18 d_l_steps rfl) sc_l_steps rfl rfl (fun _ _ _ _ _ _ us hl => match us, hl with | [_, _, _], _ => rfl) fun f cdv A outer s H E hr hp tk =>
    ds_cons (ds_set (i := 3) sc_l_steps.nd (de_lst (da_nil)))
    (ds_cons (ds_set (i := 4) sc_l_steps.nd (de_lst (da_nil)))
    (ds_cons (ds_for hp rfl (de_var 2) (dg_name (i := 5) sc_l_steps.nd) (ds_cons (ds_expr (de_append (de_var 4) (da_cons (de_tup (da_cons (de_var 5) (da_cons (de_callG tk (ok_l_takes T) hr (T.glo 20) (da_cons (de_var 1) (da_cons (de_ix i_ix (de_var 0) (de_var 5)) (da_cons (de_var 3) (da_nil))))) (da_nil)))) (da_nil))))
    (ds_one (ds_expr (de_append (de_var 3) (da_cons (de_ix i_ix (de_var 0) (de_var 5)) (da_nil)))))))
    (ds_one (ds_ret (de_var 4)))))
theorem sc_l_first : FnScope ["_law_steps_here", "_law_step"] ["_law_steps_here"] (defScope s_l_first) := ⟨rfl, rfl, rfl, by decide +kernel, rfl, by decide +kernel, by decide +kernel⟩
theorem ok_l_first (T : Tp P K mg base) : Okd P w K mg base 1 ("_law_first", none) ["_law_steps_here"] F_l_first :=
  okd_of (k := 0) (d := d_l_first) (N := ["_law_steps_here", "_law_step"]) rfl rfl (T.fn 19 d_l_first rfl) sc_l_first rfl rfl (fun _ _ _ _ _ _ us hl => match us, hl with | [_], _ => rfl) fun f cdv A outer s H E hr hp tk =>
    ds_cons (ds_for hp rfl (de_var 0) (dg_name (i := 1) sc_l_first.nd) (ds_one (ds_if (dt_tru (de_ix i_ix (de_var 1) (de_int))) (ds_one (ds_ret (de_ix i_ix (de_var 1) (de_int)))) (ds_nil))))
    (ds_one (ds_ret (de_ix i_ix (de_ix i_ix (de_var 0) (de_int)) (de_int))))
theorem sc_present : FnScope ["ranking", "yard", "worker"] ["ranking", "yard"] (defScope s_present) := ⟨rfl, rfl, rfl, by decide +kernel, rfl, by decide +kernel, by decide +kernel⟩
theorem ok_present (T : Tp P K mg base) : Okd P w K mg base 1 ("present", none) ["ranking", "yard"] F_present :=
  okd_of (k := 0) (d := d_present) (N := ["ranking", "yard", "worker"]) rfl rfl (T.fn 20 d_present rfl) sc_present rfl rfl (fun _ _ _ _ _ _ us hl => match us, hl with | [_, _], _ => rfl) fun f cdv A outer s H E hr hp tk =>
    ds_one (ds_ret (de_lcLZ rfl sc_present.nd (de_var 0) (blkOk_by (N := ["ranking", "yard", "worker"]) (sc := defScope s_present) (by decide +kernel)) (fun _ _ _ _ _ => pg_name (i := 2) sc_present.nd rfl (Or.inl rfl)) (fun _ _ _ _ _ => dts_one (dt_cmp (o_in hr.u65) (de_var 2) (de_var 1))) (fun _ _ _ _ _ => de_var 2)))
theorem sc_l_same_steps : FnScope ["_law_found", "_law_steps_here", "_law_step"] ["_law_found", "_law_steps_here"] (defScope s_l_same_steps) := ⟨rfl, rfl, rfl, by decide +kernel, rfl, by decide +kernel, by decide +kernel⟩
theorem ok_l_same_steps (T : Tp P K mg base) : Okd P w K mg base 1 ("_law_same_steps", none) ["_law_found", "_law_steps_here"] F_l_same_steps :=
  okd_of (k := 0) (d := d_l_same_steps) (N := ["_law_found", "_law_steps_here", "_law_step"]) rfl rfl (T.fn 21 d_l_same_steps rfl) sc_l_same_steps rfl rfl (fun _ _ _ _ _ _ us hl => match us, hl with | [_, _], _ => rfl) fun f cdv A outer s H E hr hp tk =>
    ds_cons (ds_if (PW.pt (dw_or (dt_not (dt_tru (de_isi (by rfl) (T.free 7) (by rfl) (T.free 9) bt_list (de_var 0)))) (dw_or1 (dt_cmp (o_ne hr.u64) (de_var 0) (de_var 1))))) (ds_one (ds_ret (de_bl))) (ds_nil))
    (ds_cons (ds_for hp rfl (de_var 0) (dg_name (i := 2) sc_l_same_steps.nd) (ds_one (ds_if (PW.pt (dw_or (dt_not (dt_tru (de_isi (by rfl) (T.free 7) (by rfl) (T.free 6) bt_tuple (de_var 2)))) (dw_or (dt_tru (de_isi (by rfl) (T.free 7) (by rfl) (T.free 10) bt_bool (de_ix i_ix (de_var 2) (de_int)))) (dw_or1 (dt_not (dt_tru (de_isi (by rfl) (T.free 7) (by rfl) (T.free 10) bt_bool (de_ix i_ix (de_var 2) (de_int))))))))) (ds_one (ds_ret (de_bl))) (ds_nil))))
    (ds_one (ds_ret (de_bl))))
theorem sc_Crew_len : FnScope ["self"] ["self"] (defScope s_Crew_len) := ⟨rfl, rfl, rfl, by decide +kernel, rfl, by decide +kernel, by decide +kernel⟩
theorem ok_Crew_len (T : Tp P K mg base) : Okd P w K mg base 1 ("Crew", some "__len__") ["self"] F_Crew_len :=
  okd_of (k := 0) (d := d_Crew_len) (N := ["self"]) rfl rfl (T.fn 22 d_Crew_len rfl) sc_Crew_len rfl rfl (fun _ _ _ _ _ _ us hl => match us, hl with | [_], _ => rfl) fun f cdv A outer s H E hr hp tk =>
    ds_one (ds_ret (de_callB c_len (by rfl) (T.free 5) bt_len (da_cons (de_fld (cs_cons ⟨He.cls_ok (T.fac 1), He.noat_ok (T.fac 3)⟩ (cs_nil)) (de_var 0)) (da_nil))))
theorem sc_Scheme_len : FnScope ["self"] ["self"] (defScope s_Scheme_len) := ⟨rfl, rfl, rfl, by decide +kernel, rfl, by decide +kernel, by decide +kernel⟩
theorem ok_Scheme_len (T : Tp P K mg base) : Okd P w K mg base 1 ("Scheme", some "__len__") ["self"] F_Scheme_len :=
  okd_of (k := 0) (d := d_Scheme_len) (N := ["self"]) rfl rfl (T.fn 23 d_Scheme_len rfl) sc_Scheme_len rfl rfl (fun _ _ _ _ _ _ us hl => match us, hl with | [_], _ => rfl) fun f cdv A outer s H E hr hp tk =>
    ds_one (ds_ret (de_callB c_len (by rfl) (T.free 5) bt_len (da_cons (de_fld (cs_cons ⟨He.cls_ok (T.fac 0), He.noat_ok (T.fac 8)⟩ (cs_nil)) (de_var 0)) (da_nil))))
theorem sc_check_ranking : FnScope ["crew", "ranking"] ["crew", "ranking"] (defScope s_check_ranking) := ⟨rfl, rfl, rfl, by decide +kernel, rfl, by decide +kernel, by decide +kernel⟩
theorem ok_check_ranking (T : Tp P K mg base) : Okd P w K mg base 4 ("check_ranking", none) ["crew", "ranking"] F_check_ranking :=
  okd_of (k := 3) (d := d_check_ranking) (N := ["crew", "ranking"]) rfl rfl (T.fn 24 d_check_ranking rfl) sc_check_ranking rfl rfl (fun _ _ _ _ _ _ us hl => match us, hl with | [_, _], _ => rfl) fun f cdv A outer s H E hr hp tk =>
    ds_one (ds_if (dt_cmp (o_ne hr.u64) (de_callB (c_sortG hr.u3) (by rfl) (T.free 11) bt_sorted (da_cons (de_var 1) (da_nil))) (de_listRgF rfl (by rfl) (T.free 9) (by rfl) (T.free 3) (de_callB (c_lenX (k := 1) (tab := mt_len) (tab_cons (methT_of (ok_Crew_len T) (He.cls_ok (T.fac 1)) (He.meth_ok (T.fac 12)) (same_ok (T.ckf 12))) (tab_cons (methT_of (ok_Scheme_len T) (He.cls_ok (T.fac 0)) (He.meth_ok (T.fac 11)) (same_ok (T.ckf 11))) (tab_nil))) hr) (by rfl) (T.free 5) bt_len (da_cons (de_var 0) (da_nil))))) (ds_one (ds_raise0 rfl (T.fac 13) (T.glo 24) tk (by rfl))) (ds_nil))
theorem sc_check_yards : FnScope ["crew", "yards", "yard"] ["crew", "yards"] (defScope s_check_yards) := ⟨rfl, rfl, rfl, by decide +kernel, rfl, by decide +kernel, by decide +kernel⟩
theorem ok_check_yards (T : Tp P K mg base) : Okd P w K mg base 4 ("check_yards", none) ["crew", "yards"] F_check_yards :=
  okd_of (k := 3) (d := d_check_yards) (N := ["crew", "yards", "yard"]) rfl rfl (T.fn 25 d_check_yards rfl) sc_check_yards rfl rfl (fun _ _ _ _ _ _ us hl => match us, hl with | [_, _], _ => rfl) fun f cdv A outer s H E hr hp tk =>
    ds_one (ds_for hp rfl (de_var 1) (dg_name (i := 2) sc_check_yards.nd) (ds_one (ds_if (PW.pt (dw_or (dt_not (dt_tru (de_var 2))) (dw_or (dt_cmp (o_ne hr.u64) (de_callTy c_listF (by rfl) (T.free 9) bt_list (da_cons (de_var 2) (da_nil))) (de_sortSetT (by rfl) (T.free 11) (by rfl) (T.free 12) (de_var 2))) (dw_or (dt_cmp o_lt (de_ix i_ix (de_var 2) (de_int)) (de_int)) (dw_or1 (dt_cmp o_ge (de_ix i_ix (de_var 2) (de_un o_neg (de_int))) (de_callB (c_lenX (k := 1) (tab := mt_len) (tab_cons (methT_of (ok_Crew_len T) (He.cls_ok (T.fac 1)) (He.meth_ok (T.fac 12)) (same_ok (T.ckf 12))) (tab_cons (methT_of (ok_Scheme_len T) (He.cls_ok (T.fac 0)) (He.meth_ok (T.fac 11)) (same_ok (T.ckf 11))) (tab_nil))) hr) (by rfl) (T.free 5) bt_len (da_cons (de_var 0) (da_nil))))))))) (ds_one (ds_raise0 rfl (T.fac 14) (T.glo 26) tk (by rfl))) (ds_nil))))
theorem sc_Crew_make_of : FnScope ["self", "worker"] ["self", "worker"] (defScope s_Crew_make_of) := ⟨rfl, rfl, rfl, by decide +kernel, rfl, by decide +kernel, by decide +kernel⟩
theorem ok_Crew_make_of (T : Tp P K mg base) : Okd P w K mg base 1 ("Crew", some "make_of") ["self", "worker"] F_Crew_make_of :=
  okd_of (k := 0) (d := d_Crew_make_of) (N := ["self", "worker"]) rfl rfl (T.fn 26 d_Crew_make_of rfl) sc_Crew_make_of rfl rfl (fun _ _ _ _ _ _ us hl => match us, hl with | [_, _], _ => rfl) fun f cdv A outer s H E hr hp tk =>
    ds_one (ds_ret (de_ix i_ix (de_ix i_ix (de_fld (cs_cons ⟨He.cls_ok (T.fac 1), He.noat_ok (T.fac 3)⟩ (cs_nil)) (de_var 0)) (de_var 1)) (de_int)))
theorem sc_belongs : FnScope ["make", "group"] ["make", "group"] (defScope s_belongs) := ⟨rfl, rfl, rfl, by decide +kernel, rfl, by decide +kernel, by decide +kernel⟩
theorem ok_belongs (T : Tp P K mg base) : Okd P w K mg base 1 ("belongs", none) ["make", "group"] F_belongs :=
  okd_of (k := 0) (d := d_belongs) (N := ["make", "group"]) rfl rfl (T.fn 27 d_belongs rfl) sc_belongs rfl rfl (fun _ _ _ _ _ _ us hl => match us, hl with | [_, _], _ => rfl) fun f cdv A outer s H E hr hp tk =>
    ds_one (ds_ret (de_or (de_cmp (o_eq hr.u64) (de_var 1) (de_tup (da_cons (de_str) (da_nil)))) (de_one (de_cmp (o_eq hr.u64) (de_ix i_ix (de_var 1) (de_int)) (de_var 0)))))
theorem sc_bound_holds : FnScope ["bound", "seen", "count", "group", "sign", "number", "make"] ["bound", "seen"] (defScope s_bound_holds) := ⟨rfl, rfl, rfl, by decide +kernel, rfl, by decide +kernel, by decide +kernel⟩
theorem ok_bound_holds (T : Tp P K mg base) : Okd P w K mg base 2 ("bound_holds", none) ["bound", "seen"] F_bound_holds :=
  okd_of (k := 1) (d := d_bound_holds) (N := ["bound", "seen", "count", "group", "sign", "number", "make"]) rfl rfl (T.fn 28 d_bound_holds rfl) sc_bound_holds rfl rfl (fun _ _ _ _ _ _ us hl => match us, hl with | [_, _], _ => rfl) fun f cdv A outer s H E hr hp tk =>
    ds_cons (ds_asg (de_var 0) (dg_tup rfl (dgs_cons (dg_name (i := 3) sc_bound_holds.nd) (dgs_cons (dg_name (i := 4) sc_bound_holds.nd) (dgs_cons (dg_name (i := 5) sc_bound_holds.nd) (dgs_nil))))))
    (ds_cons (ds_set (i := 2) sc_bound_holds.nd (de_callB c_len (by rfl) (T.free 5) bt_len (da_cons (de_lcLZ rfl sc_bound_holds.nd (de_var 1) (blkOk_by (N := ["bound", "seen", "count", "group", "sign", "number", "make"]) (sc := defScope s_bound_holds) (by decide +kernel)) (fun _ _ _ _ _ => pg_name (i := 6) sc_bound_holds.nd rfl (Or.inl rfl)) (fun _ _ _ _ _ => dts_one (dt_tru (de_callG takes0 (ok_belongs T) hr (T.glo 28) (da_cons (de_var 6) (da_cons (de_var 3) (da_nil)))))) (fun _ _ _ _ _ => de_var 6)) (da_nil))))
    (ds_cons (ds_if (dt_cmp (o_eq hr.u64) (de_var 4) (de_str)) (ds_one (ds_ret (de_cmp o_lt (de_var 2) (de_var 5)))) (ds_nil))
    (ds_one (ds_ret (de_cmp o_ge (de_var 2) (de_var 5))))))
theorem sc_Scheme_takes : FnScope ["self", "make", "seen", "group", "bounds", "bound"] ["self", "make", "seen"] (defScope s_Scheme_takes) := ⟨rfl, rfl, rfl, by decide +kernel, rfl, by decide +kernel, by decide +kernel⟩
theorem ok_Scheme_takes (T : Tp P K mg base) : Okd P w K mg base 3 ("Scheme", some "takes") ["self", "make", "seen"] F_Scheme_takes :=
  okd_of (k := 2) (d := d_Scheme_takes) (N := ["self", "make", "seen", "group", "bounds", "bound"]) rfl rfl (T.fn 29 d_Scheme_takes rfl) sc_Scheme_takes rfl rfl (fun _ _ _ _ _ _ us hl => match us, hl with | [_, _, _], _ => rfl) fun f cdv A outer s H E hr hp tk =>
    ds_cons (ds_for hp rfl (de_fld (cs_cons ⟨He.cls_ok (T.fac 0), He.noat_ok (T.fac 8)⟩ (cs_nil)) (de_var 0)) (dg_tup rfl (dgs_cons (dg_name (i := 3) sc_Scheme_takes.nd) (dgs_cons (dg_name (i := 4) sc_Scheme_takes.nd) (dgs_nil)))) (ds_one (ds_if (PW.pt (dw_and (dt_tru (de_callG tk (ok_belongs T) hr (T.glo 28) (da_cons (de_var 1) (da_cons (de_var 3) (da_nil))))) (dw_and1 (dt_tru (de_callB (c_all hr.hd) (by rfl) (T.free 13) bt_all (da_cons (de_lcLZ rfl sc_Scheme_takes.nd (de_var 4) (blkOk_by (N := ["self", "make", "seen", "group", "bounds", "bound"]) (sc := defScope s_Scheme_takes) (by decide +kernel)) (fun _ _ _ _ _ => pg_name (i := 5) sc_Scheme_takes.nd rfl (Or.inl rfl)) (fun _ _ _ _ _ => dts_nil) (fun _ _ _ _ _ => de_callG takes0 (ok_bound_holds T) hr (T.glo 29) (da_cons (de_var 5) (da_cons (de_var 2) (da_nil))))) (da_nil))))))) (ds_one (ds_ret (de_bl))) (ds_nil))))
    (ds_one (ds_ret (de_bl)))
theorem sc_walked : FnScope ["crew", "scheme", "lineup", "makes", "worker", "at"] ["crew", "scheme", "lineup"] (defScope s_walked) := ⟨rfl, rfl, rfl, by decide +kernel, rfl, by decide +kernel, by decide +kernel⟩
theorem ok_walked (T : Tp P K mg base) : Okd P w K mg base 4 ("walked", none) ["crew", "scheme", "lineup"] F_walked :=
  okd_of (k := 3) (d := d_walked) (N := ["crew", "scheme", "lineup", "makes", "worker", "at"]) rfl rfl (T.fn 30 d_walked rfl) sc_walked rfl rfl (fun _ _ _ _ _ _ us hl => match us, hl with | [_, _, _], _ => rfl) fun f cdv A outer s H E hr hp tk =>
    ds_cons (ds_set (i := 3) sc_walked.nd (de_lcLZ rfl sc_walked.nd (de_var 2) (blkOk_by (N := ["crew", "scheme", "lineup", "makes", "worker", "at"]) (sc := defScope s_walked) (by decide +kernel)) (fun _ _ _ _ _ => pg_name (i := 4) sc_walked.nd rfl (Or.inl rfl)) (fun _ _ _ _ _ => dts_nil) (fun _ _ _ _ _ => de_meth (k := 1) (tab := mt_make_of) takes0 (tab_cons (methT_of (ok_Crew_make_of T) (He.cls_ok (T.fac 1)) (He.meth_ok (T.fac 15)) (same_ok (T.ckf 13))) (tab_nil)) hr (de_var 0) (da_cons (de_var 4) (da_nil)))))
    (ds_one (ds_ret (de_lcE (own := [("at", 5), ("worker", 4)]) rfl sc_walked.nd (by rfl) (T.free 4) (da_cons (de_var 2) (da_nil)) (blkOk_by (N := ["crew", "scheme", "lineup", "makes", "worker", "at"]) (own := [("at", 5), ("worker", 4)]) (sc := defScope s_walked) (by decide +kernel)) (fun _ _ _ _ _ => pg_tup rfl (pgs_cons (pg_name (i := 5) sc_walked.nd rfl (Or.inl rfl)) (pgs_cons (pg_name (i := 4) sc_walked.nd rfl (Or.inl rfl)) (pgs_nil)))) (fun _ _ _ _ _ => dts_nil) (fun _ _ _ _ _ => de_tup (da_cons (de_var 4) (da_cons (de_meth (k := 3) (tab := mt_takes) takes0 (tab_cons (methT_of (ok_Scheme_takes T) (He.cls_ok (T.fac 0)) (He.meth_ok (T.fac 16)) (same_ok (T.ckf 14))) (tab_nil)) hr (de_var 1) (da_cons (de_ix i_ix (de_var 3) (de_var 5)) (da_cons (de_slF (de_var 3) (do_none) (do_some (de_var 5))) (da_nil)))) (da_nil)))))))
theorem sc_walk : FnScope ["crew", "scheme", "ranking", "yard"] ["crew", "scheme", "ranking", "yard"] (defScope s_walk) := ⟨rfl, rfl, rfl, by decide +kernel, rfl, by decide +kernel, by decide +kernel⟩
theorem ok_walk (T : Tp P K mg base) : Okd P w K mg base 5 ("walk", none) ["crew", "scheme", "ranking", "yard"] F_walk :=
  okd_of (k := 4) (d := d_walk) (N := ["crew", "scheme", "ranking", "yard"]) rfl rfl (T.fn 31 d_walk rfl) sc_walk rfl rfl (fun _ _ _ _ _ _ us hl => match us, hl with | [_, _, _, _], _ => rfl) fun f cdv A outer s H E hr hp tk =>
    ds_cons (ds_expr (de_callG tk (ok_check_ranking T) hr (T.glo 25) (da_cons (de_var 0) (da_cons (de_var 2) (da_nil)))))
    (ds_cons (ds_expr (de_callG tk (ok_check_yards T) hr (T.glo 27) (da_cons (de_var 0) (da_cons (de_lstF (da_cons (de_var 3) (da_nil))) (da_nil)))))
    (ds_one (ds_ret (de_callG tk (ok_walked T) hr (T.glo 30) (da_cons (de_var 0) (da_cons (de_var 1) (da_cons (de_callG tk (ok_present T) hr (T.glo 23) (da_cons (de_var 2) (da_cons (de_var 3) (da_nil)))) (da_nil))))))))
theorem sc_l_is_worker : FnScope ["_law_found", "_law_worker"] ["_law_found", "_law_worker"] (defScope s_l_is_worker) := ⟨rfl, rfl, rfl, by decide +kernel, rfl, by decide +kernel, by decide +kernel⟩
theorem ok_l_is_worker (T : Tp P K mg base) : Okd P w K mg base 1 ("_law_is_worker", none) ["_law_found", "_law_worker"] F_l_is_worker :=
  okd_of (k := 0) (d := d_l_is_worker) (N := ["_law_found", "_law_worker"]) rfl rfl (T.fn 32 d_l_is_worker rfl) sc_l_is_worker rfl rfl (fun _ _ _ _ _ _ us hl => match us, hl with | [_, _], _ => rfl) fun f cdv A outer s H E hr hp tk =>
    ds_one (ds_ret (de_and (de_isi (by rfl) (T.free 7) (by rfl) (T.free 2) bt_int (de_var 0)) (de_and (de_not (de_isi (by rfl) (T.free 7) (by rfl) (T.free 10) bt_bool (de_var 0))) (de_one (de_cmp (o_eq hr.u64) (de_var 0) (de_var 1))))))
theorem sc_first_taken : FnScope ["steps", "worker", "taken"] ["steps"] (defScope s_first_taken) := ⟨rfl, rfl, rfl, by decide +kernel, rfl, by decide +kernel, by decide +kernel⟩
theorem ok_first_taken (T : Tp P K mg base) : Okd P w K mg base 1 ("first_taken", none) ["steps"] F_first_taken :=
  okd_of (k := 0) (d := d_first_taken) (N := ["steps", "worker", "taken"]) rfl rfl (T.fn 33 d_first_taken rfl) sc_first_taken rfl rfl (fun _ _ _ _ _ _ us hl => match us, hl with | [_], _ => rfl) fun f cdv A outer s H E hr hp tk =>
    ds_cons (ds_for hp rfl (de_var 0) (dg_tup rfl (dgs_cons (dg_name (i := 1) sc_first_taken.nd) (dgs_cons (dg_name (i := 2) sc_first_taken.nd) (dgs_nil)))) (ds_one (ds_if (dt_tru (de_var 2)) (ds_one (ds_ret (de_var 1))) (ds_nil))))
    (ds_one (ds_ret (de_ix i_ix (de_ix i_ix (de_var 0) (de_int)) (de_int))))
theorem sc_holder : FnScope ["crew", "scheme", "ranking", "yard"] ["crew", "scheme", "ranking", "yard"] (defScope s_holder) := ⟨rfl, rfl, rfl, by decide +kernel, rfl, by decide +kernel, by decide +kernel⟩
theorem ok_holder (T : Tp P K mg base) : Okd P w K mg base 6 ("holder", none) ["crew", "scheme", "ranking", "yard"] F_holder :=
  okd_of (k := 5) (d := d_holder) (N := ["crew", "scheme", "ranking", "yard"]) rfl rfl (T.fn 34 d_holder rfl) sc_holder rfl rfl (fun _ _ _ _ _ _ us hl => match us, hl with | [_, _, _, _], _ => rfl) fun f cdv A outer s H E hr hp tk =>
    ds_one (ds_ret (de_callG tk (ok_first_taken T) hr (T.glo 33) (da_cons (de_callG tk (ok_walk T) hr (T.glo 31) (da_cons (de_var 0) (da_cons (de_var 1) (da_cons (de_var 2) (da_cons (de_var 3) (da_nil)))))) (da_nil))))
theorem sc_l_rearranged : FnScope ["_law_second", "_law_lineup", "_law_rest", "_law_mixed", "_law_worker"] ["_law_second", "_law_lineup"] (defScope s_l_rearranged) := ⟨rfl, rfl, rfl, by decide +kernel, rfl, by decide +kernel, by decide +kernel⟩
theorem ok_l_rearranged (T : Tp P K mg base) : Okd P w K mg base 1 ("_law_rearranged", none) ["_law_second", "_law_lineup"] F_l_rearranged :=
  okd_of (k := 0) (d := d_l_rearranged) (N := ["_law_second", "_law_lineup", "_law_rest", "_law_mixed", "_law_worker"]) rfl rfl (T.fn 35 d_l_rearranged rfl) sc_l_rearranged rfl rfl (fun _ _ _ _ _ _ us hl => match us, hl with | [_, _], _ => rfl) fun f cdv A outer s H E hr hp tk =>
    ds_cons (ds_set (i := 2) sc_l_rearranged.nd (de_callTy c_list (by rfl) (T.free 9) bt_list (da_cons (de_var 1) (da_nil))))
    (ds_cons (ds_set (i := 3) sc_l_rearranged.nd (de_lst (da_nil)))
    (ds_cons (ds_for hp rfl (de_var 0) (dg_name (i := 4) sc_l_rearranged.nd) (ds_one (ds_if (dt_cmp (o_in hr.u65) (de_var 4) (de_var 1)) (ds_one (ds_expr (de_append (de_var 3) (da_cons (de_pop1 (de_var 2) (da_cons (de_int) (da_nil))) (da_nil))))) (ds_one (ds_expr (de_append (de_var 3) (da_cons (de_var 4) (da_nil))))))))
    (ds_one (ds_ret (de_var 3)))))
theorem sc_l_toggled : FnScope ["_law_spot_here", "_law_worker", "_law_other"] ["_law_spot_here", "_law_worker"] (defScope s_l_toggled) := ⟨rfl, rfl, rfl, by decide +kernel, rfl, by decide +kernel, by decide +kernel⟩
theorem ok_l_toggled (T : Tp P K mg base) : Okd P w K mg base 1 ("_law_toggled", none) ["_law_spot_here", "_law_worker"] F_l_toggled :=
  okd_of (k := 0) (d := d_l_toggled) (N := ["_law_spot_here", "_law_worker", "_law_other"]) rfl rfl (T.fn 36 d_l_toggled rfl) sc_l_toggled rfl rfl (fun _ _ _ _ _ _ us hl => match us, hl with | [_, _], _ => rfl) fun f cdv A outer s H E hr hp tk =>
    ds_cons (ds_if (dt_cmp (o_in hr.u65) (de_var 1) (de_var 0)) (ds_one (ds_ret (de_callTy c_tuple (by rfl) (T.free 6) bt_tuple (da_cons (de_lcLZ rfl sc_l_toggled.nd (de_var 0) (blkOk_by (N := ["_law_spot_here", "_law_worker", "_law_other"]) (sc := defScope s_l_toggled) (by decide +kernel)) (fun _ _ _ _ _ => pg_name (i := 2) sc_l_toggled.nd rfl (Or.inl rfl)) (fun _ _ _ _ _ => dts_one (dt_cmp (o_ne hr.u64) (de_var 2) (de_var 1))) (fun _ _ _ _ _ => de_var 2)) (da_nil))))) (ds_nil))
    (ds_one (ds_ret (de_callTy c_tuple (by rfl) (T.free 6) bt_tuple (da_cons (de_callB (c_sortG hr.u3) (by rfl) (T.free 11) bt_sorted (da_cons (de_bin o_addF (de_callTy c_listF (by rfl) (T.free 9) bt_list (da_cons (de_var 0) (da_nil))) (de_lstF (da_cons (de_var 1) (da_nil)))) (da_nil))) (da_nil)))))
theorem sc_l_yard_fits : FnScope ["_law_hands", "_law_plan", "_law_makes_here", "_law_rules_here", "_law_ranking_here", "_law_second", "_law_spot_here", "_law_lineup", "_law_steps_here", "_law_worker", "_law_given", "_law_mixed", "_law_other", "_law_at", "_law_found"] ["_law_hands", "_law_plan", "_law_makes_here", "_law_rules_here", "_law_ranking_here", "_law_second", "_law_spot_here"] (defScope s_l_yard_fits) := ⟨rfl, rfl, rfl, by decide +kernel, rfl, by decide +kernel, by decide +kernel⟩
theorem ok_l_yard_fits (T : Tp P K mg base) : Okd P w K mg base 7 ("_law_yard_fits", none) ["_law_hands", "_law_plan", "_law_makes_here", "_law_rules_here", "_law_ranking_here", "_law_second", "_law_spot_here"] F_l_yard_fits :=
  okd_of (k := 6) (d := d_l_yard_fits) (N := ["_law_hands", "_law_plan", "_law_makes_here", "_law_rules_here", "_law_ranking_here", "_law_second", "_law_spot_here", "_law_lineup", "_law_steps_here", "_law_worker", "_law_given", "_law_mixed", "_law_other", "_law_at", "_law_found"]) rfl rfl (T.fn 37 d_l_yard_fits rfl) sc_l_yard_fits rfl rfl (fun _ _ _ _ _ _ us hl => match us, hl with | [_, _, _, _, _, _, _], _ => rfl) fun f cdv A outer s H E hr hp tk =>
    ds_cons (ds_lcLZ rfl sc_l_yard_fits.nd (de_var 4) (blkOk_by (N := ["_law_hands", "_law_plan", "_law_makes_here", "_law_rules_here", "_law_ranking_here", "_law_second", "_law_spot_here", "_law_lineup", "_law_steps_here", "_law_worker", "_law_given", "_law_mixed", "_law_other", "_law_at", "_law_found"]) (sc := defScope s_l_yard_fits) (by decide +kernel)) (fun _ _ _ _ _ => pg_name (i := 13) sc_l_yard_fits.nd rfl (Or.inl rfl)) (fun _ _ _ _ _ => dts_one (dt_cmp (o_in hr.u65) (de_var 13) (de_var 6))) (fun _ _ _ _ _ => de_var 13) (sw_true rfl rfl rfl (by decide +kernel)))
    (ds_cons (ds_set (i := 8) sc_l_yard_fits.nd (de_callG tk (ok_l_steps T) hr (T.glo 21) (da_cons (de_var 2) (da_cons (de_var 3) (da_cons (de_var 7) (da_nil))))))
    (ds_cons (ds_set (i := 9) sc_l_yard_fits.nd (de_callG tk (ok_l_first T) hr (T.glo 22) (da_cons (de_var 8) (da_nil))))
    (ds_cons (ds_set (i := 10) sc_l_yard_fits.nd (de_callTy c_listF (by rfl) (T.free 9) bt_list (da_cons (de_var 4) (da_nil))))
    (ds_cons (ds_if (dt_cmp (o_ne hr.u64) (de_callG tk (ok_present T) hr (T.glo 23) (da_cons (de_var 10) (da_cons (de_var 6) (da_nil)))) (de_var 7)) (ds_one (ds_ret (de_bl))) (ds_nil))
    (ds_cons (ds_if (dt_not (dt_tru (de_callG tk (ok_l_same_steps T) hr (T.glo 32) (da_cons (de_callG tk (ok_walk T) hr (T.glo 31) (da_cons (de_var 0) (da_cons (de_var 1) (da_cons (de_var 10) (da_cons (de_var 6) (da_nil)))))) (da_cons (de_var 8) (da_nil)))))) (ds_one (ds_ret (de_bl))) (ds_nil))
    (ds_cons (ds_if (dt_not (dt_tru (de_callG tk (ok_l_is_worker T) hr (T.glo 35) (da_cons (de_callG tk (ok_holder T) hr (T.glo 34) (da_cons (de_var 0) (da_cons (de_var 1) (da_cons (de_var 10) (da_cons (de_var 6) (da_nil)))))) (da_cons (de_var 9) (da_nil)))))) (ds_one (ds_ret (de_bl))) (ds_nil))
    (ds_cons (ds_set (i := 11) sc_l_yard_fits.nd (de_callG tk (ok_l_rearranged T) hr (T.glo 36) (da_cons (de_var 5) (da_cons (de_var 7) (da_nil)))))
    (ds_cons (ds_if (dt_not (dt_tru (de_callG tk (ok_l_is_worker T) hr (T.glo 35) (da_cons (de_callG tk (ok_holder T) hr (T.glo 34) (da_cons (de_var 0) (da_cons (de_var 1) (da_cons (de_var 11) (da_cons (de_var 6) (da_nil)))))) (da_cons (de_var 9) (da_nil)))))) (ds_one (ds_ret (de_bl))) (ds_nil))
    (ds_cons (ds_if (dt_cmp (o_in hr.u65) (de_tup (da_cons (de_var 9) (da_cons (de_bl) (da_nil)))) (de_var 8)) (ds_one (ds_for hp rfl (de_slF (de_var 4) (do_some (de_bin o_addF (de_indexL (de_var 4) (da_cons (de_var 9) (da_nil))) (de_int))) (do_none)) (dg_name (i := 12) sc_l_yard_fits.nd) (ds_cons (ds_set (i := 14) sc_l_yard_fits.nd (de_callG tk (ok_holder T) hr (T.glo 34) (da_cons (de_var 0) (da_cons (de_var 1) (da_cons (de_var 10) (da_cons (de_callG tk (ok_l_toggled T) hr (T.glo 37) (da_cons (de_var 6) (da_cons (de_var 12) (da_nil)))) (da_nil)))))))
    (ds_one (ds_if (dt_not (dt_tru (de_callG tk (ok_l_is_worker T) hr (T.glo 35) (da_cons (de_var 14) (da_cons (de_var 9) (da_nil)))))) (ds_one (ds_ret (de_bl))) (ds_nil)))))) (ds_nil))
    (ds_one (ds_ret (de_cmp (o_eq hr.u64) (de_var 10) (de_var 4)))))))))))))
theorem sc_holders : FnScope ["crew", "scheme", "ranking", "yards", "yard"] ["crew", "scheme", "ranking", "yards"] (defScope s_holders) := ⟨rfl, rfl, rfl, by decide +kernel, rfl, by decide +kernel, by decide +kernel⟩
theorem ok_holders (T : Tp P K mg base) : Okd P w K mg base 5 ("holders", none) ["crew", "scheme", "ranking", "yards"] F_holders :=
  okd_of (k := 4) (d := d_holders) (N := ["crew", "scheme", "ranking", "yards", "yard"]) rfl rfl (T.fn 38 d_holders rfl) sc_holders rfl rfl (fun _ _ _ _ _ _ us hl => match us, hl with | [_, _, _, _], _ => rfl) fun f cdv A outer s H E hr hp tk =>
    ds_cons (ds_expr (de_callG tk (ok_check_ranking T) hr (T.glo 25) (da_cons (de_var 0) (da_cons (de_var 2) (da_nil)))))
    (ds_cons (ds_expr (de_callG tk (ok_check_yards T) hr (T.glo 27) (da_cons (de_var 0) (da_cons (de_var 3) (da_nil)))))
    (ds_one (ds_ret (de_lcLZ rfl sc_holders.nd (de_var 3) (blkOk_by (N := ["crew", "scheme", "ranking", "yards", "yard"]) (sc := defScope s_holders) (by decide +kernel)) (fun _ _ _ _ _ => pg_name (i := 4) sc_holders.nd rfl (Or.inl rfl)) (fun _ _ _ _ _ => dts_nil) (fun _ _ _ _ _ => de_callG takes0 (ok_first_taken T) hr (T.glo 33) (da_cons (de_callG takes0 (ok_walked T) hr (T.glo 30) (da_cons (de_var 0) (da_cons (de_var 1) (da_cons (de_callG takes0 (ok_present T) hr (T.glo 23) (da_cons (de_var 2) (da_cons (de_var 4) (da_nil)))) (da_nil))))) (da_nil)))))))
theorem sc_l_bad_ranking : FnScope ["_law_stream_here", "_law_ranking_here", "_law_size_here", "_law_place", "_law_pick"] ["_law_stream_here", "_law_ranking_here"] (defScope s_l_bad_ranking) := ⟨rfl, rfl, rfl, by decide +kernel, rfl, by decide +kernel, by decide +kernel⟩
theorem ok_l_bad_ranking (T : Tp P K mg base) : Okd P w K mg base 2 ("_law_bad_ranking", none) ["_law_stream_here", "_law_ranking_here"] F_l_bad_ranking :=
  okd_of (k := 1) (d := d_l_bad_ranking) (N := ["_law_stream_here", "_law_ranking_here", "_law_size_here", "_law_place", "_law_pick"]) rfl rfl (T.fn 39 d_l_bad_ranking rfl) sc_l_bad_ranking rfl rfl (fun _ _ _ _ _ _ us hl => match us, hl with | [_, _], _ => rfl) fun f cdv A outer s H E hr hp tk =>
    ds_cons (ds_set (i := 2) sc_l_bad_ranking.nd (de_callB c_len (by rfl) (T.free 5) bt_len (da_cons (de_var 1) (da_nil))))
    (ds_cons (ds_set (i := 3) sc_l_bad_ranking.nd (de_callG tk (ok_l_draw T) hr (T.glo 1) (da_cons (de_var 0) (da_cons (de_var 2) (da_nil)))))
    (ds_cons (ds_set (i := 4) sc_l_bad_ranking.nd (de_callG tk (ok_l_draw T) hr (T.glo 1) (da_cons (de_var 0) (da_cons (de_int) (da_nil)))))
    (ds_cons (ds_if (dt_cmp (o_eq hr.u64) (de_var 4) (de_int)) (ds_one (ds_ret (de_bin o_addF (de_slF (de_var 1) (do_none) (do_some (de_var 3))) (de_slF (de_var 1) (do_some (de_bin o_addF (de_var 3) (de_int))) (do_none))))) (ds_nil))
    (ds_cons (ds_if (dt_cmp (o_eq hr.u64) (de_var 4) (de_int)) (ds_one (ds_ret (de_bin o_addF (de_var 1) (de_lstF (da_cons (de_ix i_ix (de_var 1) (de_var 3)) (da_nil)))))) (ds_nil))
    (ds_cons (ds_if (dt_cmp (o_eq hr.u64) (de_var 4) (de_int)) (ds_one (ds_ret (de_bin o_addF (de_bin o_addF (de_slF (de_var 1) (do_none) (do_some (de_var 3))) (de_lstF (da_cons (de_var 2) (da_nil)))) (de_slF (de_var 1) (do_some (de_bin o_addF (de_var 3) (de_int))) (do_none))))) (ds_nil))
    (ds_cons (ds_if (dt_cmp (o_eq hr.u64) (de_var 4) (de_int)) (ds_one (ds_ret (de_bin o_addF (de_bin o_addF (de_slF (de_var 1) (do_none) (do_some (de_var 3))) (de_lstF (da_cons (de_un o_neg (de_int)) (da_nil)))) (de_slF (de_var 1) (do_some (de_bin o_addF (de_var 3) (de_int))) (do_none))))) (ds_nil))
    (ds_one (ds_ret (de_bin o_addF (de_var 1) (de_lstF (da_cons (de_var 2) (da_nil))))))))))))
theorem sc_l_bad_spot : FnScope ["_law_stream_here", "_law_size_here", "_law_worker", "_law_one"] ["_law_stream_here", "_law_size_here"] (defScope s_l_bad_spot) := ⟨rfl, rfl, rfl, by decide +kernel, rfl, by decide +kernel, by decide +kernel⟩
theorem ok_l_bad_spot (T : Tp P K mg base) : Okd P w K mg base 2 ("_law_bad_spot", none) ["_law_stream_here", "_law_size_here"] F_l_bad_spot :=
  okd_of (k := 1) (d := d_l_bad_spot) (N := ["_law_stream_here", "_law_size_here", "_law_worker", "_law_one"]) rfl rfl (T.fn 40 d_l_bad_spot rfl) sc_l_bad_spot rfl rfl (fun _ _ _ _ _ _ us hl => match us, hl with | [_, _], _ => rfl) fun f cdv A outer s H E hr hp tk =>
    ds_cons (ds_set (i := 2) sc_l_bad_spot.nd (de_callG tk (ok_l_draw T) hr (T.glo 1) (da_cons (de_var 0) (da_cons (de_var 1) (da_nil)))))
    (ds_cons (ds_set (i := 3) sc_l_bad_spot.nd (de_bin o_addF (de_var 2) (de_int)))
    (ds_one (ds_ret (de_ix i_ix (de_lstF (da_cons (de_tup (da_nil)) (da_cons (de_tup (da_cons (de_var 2) (da_cons (de_var 2) (da_nil)))) (da_cons (de_tup (da_cons (de_var 2) (da_cons (de_var 1) (da_nil)))) (da_cons (de_tup (da_cons (de_un o_neg (de_int)) (da_cons (de_var 2) (da_nil)))) (da_cons (de_tup (da_cons (de_var 1) (da_nil))) (da_cons (de_tup (da_cons (de_un o_neg (de_int)) (da_nil))) (da_cons (de_tup (da_cons (de_var 3) (da_cons (de_var 2) (da_nil)))) (da_cons (de_tup (da_cons (de_var 2) (da_cons (de_var 3) (da_cons (de_var 3) (da_nil))))) (da_nil)))))))))) (de_callG tk (ok_l_draw T) hr (T.glo 1) (da_cons (de_var 0) (da_cons (de_int) (da_nil))))))))
theorem sc_l_refusal : FnScope ["_law_hands", "_law_plan", "_law_ranking_here", "_law_spots_here", "_law_which", "_law_told"] ["_law_hands", "_law_plan", "_law_ranking_here", "_law_spots_here", "_law_which"] (defScope s_l_refusal) := ⟨rfl, rfl, rfl, by decide +kernel, rfl, by decide +kernel, by decide +kernel⟩
theorem ok_l_refusal (T : Tp P K mg base) : Okd P w K mg base 7 ("_law_refusal", none) ["_law_hands", "_law_plan", "_law_ranking_here", "_law_spots_here", "_law_which"] F_l_refusal :=
  okd_of (k := 6) (d := d_l_refusal) (N := ["_law_hands", "_law_plan", "_law_ranking_here", "_law_spots_here", "_law_which", "_law_told"]) rfl rfl (T.fn 41 d_l_refusal rfl) sc_l_refusal rfl rfl (fun _ _ _ _ _ _ us hl => match us, hl with | [_, _, _, _, _], _ => rfl) fun f cdv A outer s H E hr hp tk =>
    ds_cons (ds_set (i := 5) sc_l_refusal.nd (de_str))
    (ds_cons (ds_tryM sc_l_refusal.nd tk
      (fun W tkp xe tk hp => ds_one (ds_if (dt_cmp (o_eq hr.u64) (de_var 4) (de_int)) (ds_one (ds_expr (de_callG tk (ok_walk T) hr (T.glo 31) (da_cons (de_var 0) (da_cons (de_var 1) (da_cons (de_var 2) (da_cons (de_ix i_ix (de_var 3) (de_un o_neg (de_int))) (da_nil)))))))) (ds_one (ds_if (dt_cmp (o_eq hr.u64) (de_var 4) (de_int)) (ds_one (ds_expr (de_callG tk (ok_holder T) hr (T.glo 34) (da_cons (de_var 0) (da_cons (de_var 1) (da_cons (de_var 2) (da_cons (de_ix i_ix (de_var 3) (de_un o_neg (de_int))) (da_nil)))))))) (ds_one (ds_expr (de_callG tk (ok_holders T) hr (T.glo 39) (da_cons (de_var 0) (da_cons (de_var 1) (da_cons (de_var 2) (da_cons (de_var 3) (da_nil))))))))))))
      (.one (xc := "BadRanking") ⟨rfl, by decide, Or.inl (T.glo 24)⟩ (xtab_cons (He.exm_ok (T.fac 23)) (xtab_cons (He.exm_ok (T.fac 22)) (xtab_cons (He.exm_ok (T.fac 21)) (xtab_cons (He.exm_ok (T.fac 20)) (xtab_cons (He.exm_ok (T.fac 19)) (xtab_cons (He.exm_ok (T.fac 18)) (xtab_cons (He.exm_ok (T.fac 17)) (xtab_nil))))))))
      (fun a oe pn c fs => ds_one (ds_set (i := 5) sc_l_refusal.nd (de_str))) (.one (xc := "BadYard") ⟨rfl, by decide, Or.inl (T.glo 26)⟩ (xtab_cons (He.exm_ok (T.fac 30)) (xtab_cons (He.exm_ok (T.fac 29)) (xtab_cons (He.exm_ok (T.fac 28)) (xtab_cons (He.exm_ok (T.fac 27)) (xtab_cons (He.exm_ok (T.fac 26)) (xtab_cons (He.exm_ok (T.fac 25)) (xtab_cons (He.exm_ok (T.fac 24)) (xtab_nil))))))))
      (fun a oe pn c fs => ds_one (ds_set (i := 5) sc_l_refusal.nd (de_str))) (.one (xc := "MovedError") ⟨rfl, by decide, Or.inl (T.glo 43)⟩ (xtab_cons (He.exm_ok (T.fac 37)) (xtab_cons (He.exm_ok (T.fac 36)) (xtab_cons (He.exm_ok (T.fac 35)) (xtab_cons (He.exm_ok (T.fac 34)) (xtab_cons (He.exm_ok (T.fac 33)) (xtab_cons (He.exm_ok (T.fac 32)) (xtab_cons (He.exm_ok (T.fac 31)) (xtab_nil))))))))
      (fun a oe pn c fs => ds_one (ds_set (i := 5) sc_l_refusal.nd (de_str))) (.nil)))))
    (ds_one (ds_ret (de_var 5))))
theorem sc_l_refuses : FnScope ["_law_stream_here", "_law_hands", "_law_plan", "_law_ranking_here", "_law_spots_here", "_law_bad", "_law_wrong", "_law_many", "_law_last", "_law_which", "_law_rows"] ["_law_stream_here", "_law_hands", "_law_plan", "_law_ranking_here", "_law_spots_here"] (defScope s_l_refuses) := ⟨rfl, rfl, rfl, by decide +kernel, rfl, by decide +kernel, by decide +kernel⟩
theorem ok_l_refuses (T : Tp P K mg base) : Okd P w K mg base 8 ("_law_refuses", none) ["_law_stream_here", "_law_hands", "_law_plan", "_law_ranking_here", "_law_spots_here"] F_l_refuses :=
  okd_of (k := 7) (d := d_l_refuses) (N := ["_law_stream_here", "_law_hands", "_law_plan", "_law_ranking_here", "_law_spots_here", "_law_bad", "_law_wrong", "_law_many", "_law_last", "_law_which", "_law_rows"]) rfl rfl (T.fn 42 d_l_refuses rfl) sc_l_refuses rfl rfl (fun _ _ _ _ _ _ us hl => match us, hl with | [_, _, _, _, _], _ => rfl) fun f cdv A outer s H E hr hp tk =>
    ds_cons (ds_set (i := 5) sc_l_refuses.nd (de_callG tk (ok_l_bad_ranking T) hr (T.glo 40) (da_cons (de_var 0) (da_cons (de_var 3) (da_nil)))))
    (ds_cons (ds_set (i := 6) sc_l_refuses.nd (de_callTy c_list (by rfl) (T.free 9) bt_list (da_cons (de_var 4) (da_nil))))
    (ds_cons (ds_lput (de_callG tk (ok_l_bad_spot T) hr (T.glo 41) (da_cons (de_var 0) (da_cons (de_callB c_len (by rfl) (T.free 5) bt_len (da_cons (de_var 3) (da_nil))) (da_nil)))) (de_var 6) (de_un o_neg (de_int)))
    (ds_cons (ds_set (i := 7) sc_l_refuses.nd (de_callTy c_list (by rfl) (T.free 9) bt_list (da_cons (de_var 6) (da_nil))))
    (ds_cons (ds_set (i := 8) sc_l_refuses.nd (de_pop0 (de_var 7)))
    (ds_cons (ds_expr (de_insert (de_var 7) (da_cons (de_callG tk (ok_l_draw T) hr (T.glo 1) (da_cons (de_var 0) (da_cons (de_bin o_addF (de_callB c_len (by rfl) (T.free 5) bt_len (da_cons (de_var 7) (da_nil))) (de_int)) (da_nil)))) (da_cons (de_var 8) (da_nil)))))
    (ds_cons (ds_forR1 hp rfl (by rfl) (T.free 3) (da_cons (de_int) (da_nil)) (dg_name (i := 9) sc_l_refuses.nd) (ds_cons (ds_set (i := 10) sc_l_refuses.nd (de_var 6))
    (ds_cons (ds_if (dt_cmp (o_eq hr.u64) (de_var 9) (de_int)) (ds_one (ds_set (i := 10) sc_l_refuses.nd (de_var 7))) (ds_nil))
    (ds_cons (ds_if (dt_cmp (o_ne hr.u64) (de_callG tk (ok_l_refusal T) hr (T.glo 44) (da_cons (de_var 1) (da_cons (de_var 2) (da_cons (de_callTy c_listF (by rfl) (T.free 9) bt_list (da_cons (de_var 5) (da_nil))) (da_cons (de_callTy c_listF (by rfl) (T.free 9) bt_list (da_cons (de_var 4) (da_nil))) (da_cons (de_var 9) (da_nil))))))) (de_str)) (ds_one (ds_ret (de_bl))) (ds_nil))
    (ds_cons (ds_if (dt_cmp (o_ne hr.u64) (de_callG tk (ok_l_refusal T) hr (T.glo 44) (da_cons (de_var 1) (da_cons (de_var 2) (da_cons (de_callTy c_listF (by rfl) (T.free 9) bt_list (da_cons (de_var 5) (da_nil))) (da_cons (de_callTy c_listF (by rfl) (T.free 9) bt_list (da_cons (de_var 10) (da_nil))) (da_cons (de_var 9) (da_nil))))))) (de_str)) (ds_one (ds_ret (de_bl))) (ds_nil))
    (ds_cons (ds_if (dt_cmp (o_ne hr.u64) (de_callG tk (ok_l_refusal T) hr (T.glo 44) (da_cons (de_var 1) (da_cons (de_var 2) (da_cons (de_callTy c_listF (by rfl) (T.free 9) bt_list (da_cons (de_var 3) (da_nil))) (da_cons (de_callTy c_listF (by rfl) (T.free 9) bt_list (da_cons (de_var 10) (da_nil))) (da_cons (de_var 9) (da_nil))))))) (de_str)) (ds_one (ds_ret (de_bl))) (ds_nil))
    (ds_one (ds_if (dt_cmp (o_ne hr.u64) (de_callG tk (ok_l_refusal T) hr (T.glo 44) (da_cons (de_var 1) (da_cons (de_var 2) (da_cons (de_callTy c_listF (by rfl) (T.free 9) bt_list (da_cons (de_var 3) (da_nil))) (da_cons (de_callTy c_listF (by rfl) (T.free 9) bt_list (da_cons (de_var 4) (da_nil))) (da_cons (de_var 9) (da_nil))))))) (de_str)) (ds_one (ds_ret (de_bl))) (ds_nil)))))))))
    (ds_one (ds_ret (de_bl)))))))))
theorem sc_l_takes_alike : FnScope ["_law_stream_here", "_law_plan", "_law_rules_here", "_law_names", "_law_make", "_law_seen", "_law_given", "_law_found", "_law_k"] ["_law_stream_here", "_law_plan", "_law_rules_here"] (defScope s_l_takes_alike) := ⟨rfl, rfl, rfl, by decide +kernel, rfl, by decide +kernel, by decide +kernel⟩
theorem ok_l_takes_alike (T : Tp P K mg base) : Okd P w K mg base 4 ("_law_takes_alike", none) ["_law_stream_here", "_law_plan", "_law_rules_here"] F_l_takes_alike :=
  okd_of (k := 3) (d := d_l_takes_alike) (N := ["_law_stream_here", "_law_plan", "_law_rules_here", "_law_names", "_law_make", "_law_seen", "_law_given", "_law_found", "_law_k"]) rfl rfl (T.fn 43 d_l_takes_alike rfl) sc_l_takes_alike rfl rfl (fun _ _ _ _ _ _ us hl => match us, hl with | [_, _, _], _ => rfl) fun f cdv A outer s H E hr hp tk =>
    ds_cons (ds_set (i := 3) sc_l_takes_alike.nd (de_lstF (da_cons (de_str) (da_cons (de_str) (da_cons (de_str) (da_cons (de_str) (da_nil)))))))
    (ds_cons (ds_set (i := 4) sc_l_takes_alike.nd (de_ix i_ix (de_var 3) (de_callG tk (ok_l_draw T) hr (T.glo 1) (da_cons (de_var 0) (da_cons (de_int) (da_nil))))))
    (ds_cons (ds_lcR1Z rfl sc_l_takes_alike.nd (by rfl) (T.free 3) (da_cons (de_callG tk (ok_l_draw T) hr (T.glo 1) (da_cons (de_var 0) (da_cons (de_int) (da_nil)))) (da_nil)) (blkOk_by (N := ["_law_stream_here", "_law_plan", "_law_rules_here", "_law_names", "_law_make", "_law_seen", "_law_given", "_law_found", "_law_k"]) (sc := defScope s_l_takes_alike) (by decide +kernel)) (fun _ _ _ _ _ => pg_name (i := 8) sc_l_takes_alike.nd rfl (Or.inl rfl)) (fun _ _ _ _ _ => dts_nil) (fun _ _ _ _ _ => de_ix i_ix (de_var 3) (de_callG takes0 (ok_l_draw T) hr (T.glo 1) (da_cons (de_var 0) (da_cons (de_int) (da_nil))))) (sw_true rfl rfl rfl (by decide +kernel)))
    (ds_cons (ds_set (i := 6) sc_l_takes_alike.nd (de_callTy c_listF (by rfl) (T.free 9) bt_list (da_cons (de_var 5) (da_nil))))
    (ds_cons (ds_set (i := 7) sc_l_takes_alike.nd (de_meth (k := 3) (tab := mt_takes) tk (tab_cons (methT_of (ok_Scheme_takes T) (He.cls_ok (T.fac 0)) (He.meth_ok (T.fac 16)) (same_ok (T.ckf 14))) (tab_nil)) hr (de_var 1) (da_cons (de_var 4) (da_cons (de_var 6) (da_nil)))))
    (ds_cons (ds_if (PW.pt (dw_or (dt_not (dt_tru (de_isi (by rfl) (T.free 7) (by rfl) (T.free 10) bt_bool (de_var 7)))) (dw_or1 (dt_cmp (o_ne hr.u64) (de_var 6) (de_var 5))))) (ds_one (ds_ret (de_bl))) (ds_nil))
    (ds_one (ds_ret (de_cmp (o_eq hr.u64) (de_var 7) (de_callG tk (ok_l_takes T) hr (T.glo 20) (da_cons (de_var 2) (da_cons (de_var 4) (da_cons (de_var 5) (da_nil)))))))))))))
theorem sc_law : FnScope ["_law_script", "_law_stream_here", "_law_size_here", "_law_makes_here", "_law_rules_here", "_law_hands", "_law_plan", "_law_ranking_here", "_law_second", "_law_spots_here", "_law_spot_here", "_law_due", "_law_found", "_law_lineup", "_law_at"] ["_law_script"] (defScope s_law) := ⟨rfl, rfl, rfl, by decide +kernel, rfl, by decide +kernel, by decide +kernel⟩
theorem fn_law (T : Tp P K mg base) {fd : FuncData} (F : FunD K d_law.name d_law.qual d_law.params d_law.body d_law.scope [] [] (He.fAd K d_law.at_) fd) : FnOk P w K mg base (L2.CX P w) 9 (He.fAd K d_law.at_) fd ["_law_script"] (spF K F_law) :=
  fn_D (k := 8) (N := ["_law_script", "_law_stream_here", "_law_size_here", "_law_makes_here", "_law_rules_here", "_law_hands", "_law_plan", "_law_ranking_here", "_law_second", "_law_spots_here", "_law_spot_here", "_law_due", "_law_found", "_law_lineup", "_law_at"]) F sc_law rfl rfl fun cdv A outer s H E hr hp tk =>
    ds_cons (ds_set (i := 1) sc_law.nd (de_callG tk (ok_l_stream T) hr (T.glo 0) (da_cons (de_var 0) (da_nil))))
    (ds_cons (ds_set (i := 2) sc_law.nd (de_callG tk (ok_l_size T) hr (T.glo 2) (da_cons (de_var 1) (da_nil))))
    (ds_cons (ds_set (i := 3) sc_law.nd (de_callG tk (ok_l_makes T) hr (T.glo 3) (da_cons (de_var 1) (da_cons (de_var 2) (da_nil)))))
    (ds_cons (ds_set (i := 4) sc_law.nd (de_callG tk (ok_l_rules T) hr (T.glo 6) (da_cons (de_var 1) (da_nil))))
    (ds_cons (ds_set (i := 5) sc_law.nd (de_new (k := 5) tk (newT_of (ok_Crew_init T) (He.mkr_ok (T.fac 7)) rfl) hr (T.glo 7) (da_cons (de_callG tk (ok_l_workers T) hr (T.glo 14) (da_cons (de_var 3) (da_cons (de_callG tk (ok_l_draw T) hr (T.glo 1) (da_cons (de_var 1) (da_cons (de_int) (da_nil)))) (da_nil)))) (da_nil))))
    (ds_cons (ds_set (i := 6) sc_law.nd (de_new (k := 2) tk (newT_of (ok_Scheme_init T) (He.mkr_ok (T.fac 10)) rfl) hr (T.glo 8) (da_cons (de_callTy c_listF (by rfl) (T.free 9) bt_list (da_cons (de_var 4) (da_nil))) (da_nil))))
    (ds_cons (ds_set (i := 7) sc_law.nd (de_callG tk (ok_l_ranking T) hr (T.glo 16) (da_cons (de_var 1) (da_cons (de_var 2) (da_nil)))))
    (ds_cons (ds_set (i := 8) sc_law.nd (de_callG tk (ok_l_ranking T) hr (T.glo 16) (da_cons (de_var 1) (da_cons (de_var 2) (da_nil)))))
    (ds_cons (ds_set (i := 9) sc_law.nd (de_callG tk (ok_l_spots T) hr (T.glo 18) (da_cons (de_var 1) (da_cons (de_var 2) (da_cons (de_bin o_addF (de_int) (de_callG tk (ok_l_draw T) hr (T.glo 1) (da_cons (de_var 1) (da_cons (de_int) (da_nil))))) (da_nil))))))
    (ds_cons (ds_for hp rfl (de_var 9) (dg_name (i := 10) sc_law.nd) (ds_one (ds_if (dt_not (dt_tru (de_callG tk (ok_l_yard_fits T) hr (T.glo 38) (da_cons (de_var 5) (da_cons (de_var 6) (da_cons (de_var 3) (da_cons (de_var 4) (da_cons (de_var 7) (da_cons (de_var 8) (da_cons (de_var 10) (da_nil))))))))))) (ds_one (ds_ret (de_bl))) (ds_nil))))
    (ds_cons (ds_set (i := 11) sc_law.nd (de_lst (da_nil)))
    (ds_cons (ds_for hp rfl (de_var 9) (dg_name (i := 10) sc_law.nd) (ds_cons (ds_lcLZ rfl sc_law.nd (de_var 7) (blkOk_by (N := ["_law_script", "_law_stream_here", "_law_size_here", "_law_makes_here", "_law_rules_here", "_law_hands", "_law_plan", "_law_ranking_here", "_law_second", "_law_spots_here", "_law_spot_here", "_law_due", "_law_found", "_law_lineup", "_law_at"]) (sc := defScope s_law) (by decide +kernel)) (fun _ _ _ _ _ => pg_name (i := 14) sc_law.nd rfl (Or.inl rfl)) (fun _ _ _ _ _ => dts_one (dt_cmp (o_in hr.u65) (de_var 14) (de_var 10))) (fun _ _ _ _ _ => de_var 14) (sw_true rfl rfl rfl (by decide +kernel)))
    (ds_one (ds_expr (de_append (de_var 11) (da_cons (de_callG tk (ok_l_first T) hr (T.glo 22) (da_cons (de_callG tk (ok_l_steps T) hr (T.glo 21) (da_cons (de_var 3) (da_cons (de_var 4) (da_cons (de_var 13) (da_nil))))) (da_nil))) (da_nil)))))))
    (ds_cons (ds_set (i := 12) sc_law.nd (de_callG tk (ok_holders T) hr (T.glo 39) (da_cons (de_var 5) (da_cons (de_var 6) (da_cons (de_callTy c_listF (by rfl) (T.free 9) bt_list (da_cons (de_var 7) (da_nil))) (da_cons (de_callTy c_listF (by rfl) (T.free 9) bt_list (da_cons (de_var 9) (da_nil))) (da_nil)))))))
    (ds_cons (ds_if (PW.pt (dw_or (dt_not (dt_tru (de_isi (by rfl) (T.free 7) (by rfl) (T.free 9) bt_list (de_var 12)))) (dw_or1 (dt_cmp (o_ne hr.u64) (de_var 12) (de_var 11))))) (ds_one (ds_ret (de_bl))) (ds_nil))
    (ds_cons (ds_if (dt_not (dt_tru (de_callG tk (ok_l_refuses T) hr (T.glo 45) (da_cons (de_var 1) (da_cons (de_var 5) (da_cons (de_var 6) (da_cons (de_var 7) (da_cons (de_var 9) (da_nil))))))))) (ds_one (ds_ret (de_bl))) (ds_nil))
    (ds_one (ds_ret (de_callG tk (ok_l_takes_alike T) hr (T.glo 46) (da_cons (de_var 1) (da_cons (de_var 6) (da_cons (de_var 4) (da_nil)))))))))))))))))))))
end
end G
end
section
set_option Elab.async false
set_option linter.all false
set_option maxRecDepth 100000
set_option maxHeartbeats 0
namespace G
open PySem PySem.Spec L2 M PySem.W PySem.Calls PyProof.Rows
abbrev Rw : PySem.W.OpenRow := PySem.W.OpenLaw.row PySem.Challenge.rw_movedstates_k48_holder_by_its_lineup
abbrev hk : PySem.W.Hook := hookR 0 want
def ob (s : PySem.W.SharedT) : AlM := obsR 0 want (HandSHeadRun.getT s) s.n
theorem ob_eq (s : PySem.W.SharedT) : ob s = hk.obs s.abs := obsR_eq (HandSHeadRun.getT_eq s) (PySem.W.absHeap_size _ _ _).symm
def loose : List Str := (("_wall") :: ("MovedError") :: ("BadName") :: ("BadLine") :: ("DuplicateName") :: ("BadCrew") :: ("BadScheme") :: ("BadYard") :: ("BadRanking") :: ("check_ranking") :: ("check_yards") :: ("present") :: ("walked") :: ("walk") :: ("first_taken") :: ("holder") :: ("holders") :: ("LETTERS") :: ("LONGEST_NAME") :: ("is_name") :: ("check_name") :: ("text_lines") :: ("read_worker") :: ("Crew") :: ("SIGNS") :: ("NUMBERS") :: ("belongs") :: ("bound_holds") :: ("read_group") :: ("write_group") :: ("read_bounds") :: ("read_rule") :: ("write_rule") :: ("Scheme") :: ("_law_stream") :: ("_law_draw") :: ("_law_size") :: ("_law_makes") :: ("_law_workers") :: ("_law_group") :: ("_law_rule") :: ("_law_rules") :: ("_law_spot") :: ("_law_spots") :: ("_law_ranking") :: ("_law_in_group") :: ("_law_takes") :: ("_law_steps") :: ("_law_first") :: ("_law_same_steps") :: ("_law_is_worker") :: ("_law_rearranged") :: ("_law_toggled") :: ("_law_yard_fits") :: ("_law_refusal") :: ("_law_bad_ranking") :: ("_law_bad_spot") :: ("_law_refuses") :: ("_law_takes_alike") :: [])
theorem hrunA (w : World) (os : OsState) : (HandSHeadRun.endF (HandSHeadRun.stepQ (HandSHeadRun.denQ HandSHeadRun.tabQ) Rw.prog w) 16000 Rw.prog w os).map (fun s => HandSHeadRun.looksF Rw.prog (PySem.W.boot_heap w.params) s.abs) = some (true) := by
  kernel_rfl
theorem hrunB (w : World) (os : OsState) : (HandSHeadRun.endF (HandSHeadRun.stepQ (HandSHeadRun.denQ HandSHeadRun.tabQ) Rw.prog w) 16000 Rw.prog w os).map (fun s => HandSHeadRun.seenQ (PySem.W.view Rw.prog [65]) loose (importedModules Rw.prog.main.body) (fun s => xlAt (PySem.W.view Rw.prog [65]) [] s && recOk Rw.toRowW.records s) s.abs) = some (openGood (PySem.W.view Rw.prog [65]) loose) := by
  kernel_rfl
theorem hrun1 (w : World) (os : OsState) : (HandSHeadRun.endF (HandSHeadRun.stepQ (HandSHeadRun.denQ HandSHeadRun.tabQ) Rw.prog w) 16000 Rw.prog w os).map (fun s => want.fa.all fun f => f.ok (frR (HandSHeadRun.getT s) (asR 0 s.n))) = some (true) := by
  kernel_rfl
theorem hrun2 (w : World) (os : OsState) : (HandSHeadRun.endF (HandSHeadRun.stepQ (HandSHeadRun.denQ HandSHeadRun.tabQ) Rw.prog w) 16000 Rw.prog w os).map (fun s => want.fn.all fun d => d.ok (frR (HandSHeadRun.getT s) (asR 0 s.n))) = some (true) := by
  kernel_rfl
theorem hrun3 (w : World) (os : OsState) : (HandSHeadRun.endF (HandSHeadRun.stepQ (HandSHeadRun.denQ HandSHeadRun.tabQ) Rw.prog w) 16000 Rw.prog w os).map (fun s => want.fn.map fun d => He.fnW (frR (HandSHeadRun.getT s) (asR 0 s.n)) d.at_) = some (want.fn.map He.DefD.val) := by
  kernel_rfl
theorem hrun4 (w : World) (os : OsState) : (HandSHeadRun.endF (HandSHeadRun.stepQ (HandSHeadRun.denQ HandSHeadRun.tabQ) Rw.prog w) 16000 Rw.prog w os).map (fun s => want.ck.all fun c => c.ok (frR (HandSHeadRun.getT s) (asR 0 s.n))) = some (true) := by
  kernel_rfl
theorem hrun5 (w : World) (os : OsState) : (HandSHeadRun.endF (HandSHeadRun.stepQ (HandSHeadRun.denQ HandSHeadRun.tabQ) Rw.prog w) 16000 Rw.prog w os).map (fun s => (want.cf.all (fun d => d.ok (frR (HandSHeadRun.getT s) (asR 0 s.n)) want.file), tabsB (frR (HandSHeadRun.getT s) (asR 0 s.n)) (HandSHeadRun.getT s), (want.cf.map fun d => fnC (frR (HandSHeadRun.getT s) (asR 0 s.n)) d.at_), want.gf.all (fun d => d.ok (frR (HandSHeadRun.getT s) (asR 0 s.n))), want.gf.map fun d => fnG (frR (HandSHeadRun.getT s) (asR 0 s.n)) (d.adr (frR (HandSHeadRun.getT s) (asR 0 s.n))))) = some ((true, true, want.cf.map DefC.val, true, want.gf.map DefG.val)) := by
  kernel_rfl
theorem hrunO (w : World) (os : OsState) : (HandSHeadRun.endF (HandSHeadRun.stepQ (HandSHeadRun.denQ HandSHeadRun.tabQ) Rw.prog w) 16000 Rw.prog w os).map ob = some (hk.val w) := obs_parts (hrun1 w os) (hrun2 w os) (hrun3 w os) (hrun4 w os) (hrun5 w os)
theorem run (w : World) : HandSHeadRun.RunEq Rw (PySem.W.view Rw.prog [65]) hk ob 16000 loose w := by
  intro os
  exact map3b (hrunA w os) (hrunB w os) (hrunO w os)
end G
end
section
set_option Elab.async false
set_option linter.all false
set_option maxRecDepth 100000
set_option maxHeartbeats 0
namespace G
open PySem PySem.Spec L2 M
theorem tp_of {P : Program} {K : PySem.W.Frag} {h : Heap} {mg : Str → Option Value} {base : Heap} (G : h.Ns mainGlobals mg) (c : SaysM want K h) (tb : ∀ t ∈ tabsAll K, LamX.TabB base mg t.1 t.2.1) (hP : P = PySem.Challenge.pw_movedstates_k48_holder_by_its_lineup) : Tp P K mg base := by
  subst hP
  refine ⟨⟨h, c⟩, fun i x e => ?_, fun i x e => ?_, tb, by decide +kernel, ⟨h, c.kin, G⟩, by decide +kernel⟩
  · have hm : He.Fa.free x ∈ fas := List.mem_append_right _ (List.mem_append_left _ (List.mem_map.mpr ⟨x, List.mem_of_getElem? e, rfl⟩))
    obtain ⟨j, hj⟩ := List.getElem?_of_mem hm
    exact He.free_ok c.kin G (c.d.fact j hj)
  · have hm : He.Fa.glo x ∈ fas := List.mem_append_right _ (List.mem_append_right _ (List.mem_map.mpr ⟨x, List.mem_of_getElem? e, rfl⟩))
    obtain ⟨j, hj⟩ := List.getElem?_of_mem hm
    exact He.glo_ok c.kin G (c.d.fact j hj)
def Pure : Prop := ∀ (ns : List Int), ns.length ≤ 63 → (∀ z ∈ ns, Builtin.Int.intBits z ≤ 1048576) → ∃ st, F_law [.fz (.rol (ns.map P.int))] [] = .ok (.fz (.bl true), st)
end G
open PySem PySem.W PySem.Calls PyProof.Rows
theorem holds_of (hp : G.Pure) : PySem.Challenge.rw_movedstates_k48_holder_by_its_lineup.Holds := by
  w_on; o_law
  refine HandSHeadRun.head_any (r := OpenLaw.row PySem.Challenge.rw_movedstates_k48_holder_by_its_lineup) (q := view (OpenLaw.row PySem.Challenge.rw_movedstates_k48_holder_by_its_lineup).prog [65]) (H := G.hk) (ob := G.ob) (M := 16000) (loose := G.loose) (d := HandSHeadRun.topDef (OpenLaw.row PySem.Challenge.rw_movedstates_k48_holder_by_its_lineup).prog 65) (kwd := []) G.ob_eq
    (by kernel_rfl) (fun s => by kernel_rfl) G.run (by kernel_rfl) (by kernel_rfl) (by kernel_rfl) (by rfl) (by first | assumption | decide +kernel) (by decide +kernel) ⟨rfl, rfl, rfl, rfl, rfl, by decide +kernel⟩ ?hw ?hc
  case hw => w_witness2
  case hc =>
    refine M.walk_ofM (l := PySem.Challenge.rw_movedstates_k48_holder_by_its_lineup) (n := 63) (k := 9) (x := "_law_script") rfl (by decide) (by kernel_rfl) ⟨rfl, by decide, by decide⟩ ?F
    intro w mg fa h Y Gn hmg0
    obtain ⟨K, c⟩ := Y
    have hmg : mg ("law" : PySem.Str) = some (.ref fa) := by
      have e : (HandSHeadRun.topDef (OpenLaw.row PySem.Challenge.rw_movedstates_k48_holder_by_its_lineup).prog 65).name = ("law" : PySem.Str) := by kernel_rfl
      rw [← e]
      exact hmg0
    obtain ⟨fd, F⟩ := c.d.def_ 44 (d := G.d_law) rfl
    have hl : He.Fa.glo "law" ∈ G.fas := by simp [G.fas, G.glos]
    obtain ⟨j, hj⟩ := List.getElem?_of_mem hl
    have e := hmg.symm.trans (He.glo_ok c.kin Gn (c.d.fact j hj))
    cases e
    have F' : L2.FunD K G.d_law.name G.d_law.qual G.d_law.params G.d_law.body G.d_law.scope [] [] (He.fAd K G.d_law.at_) fd := F
    have b := L2.FunD.bindsA (ps := ["_law_script"]) F' fun _ _ _ _ _ _ us hl => match us, hl with | [_], _ => rfl
    exact ⟨K, fd, G.F_law, c.kin, c.th, fun s v => b s [v] rfl, fun ns h1 h2 => hp ns h1 h2, fun base hK hN hT => G.fn_law (G.tp_of Gn c hT rfl) F'⟩
end
section
set_option Elab.async false
set_option linter.all false
set_option maxRecDepth 100000
set_option maxHeartbeats 0
namespace M
open PySem L2
@[simp] theorem bind_ok {α β : Type} (a : α) (k : α → R β) : (R.ok a).bind k = k a := rfl
@[simp] theorem bind_stuck {α β : Type} (k : α → R β) : (R.stuck : R α).bind k = .stuck := rfl
@[simp] theorem bind_exc {α β : Type} (c : Str) (fs : Option (List (Str × P))) (η : Et) (st : Sr) (k : α → R β) : (R.exc c fs η st : R α).bind k = .exc c fs η st := rfl
@[simp] theorem eqP_int (i j : Int) : eqP (.int i) (.int j) = decide (i = j) := by
  unfold eqP toPy
  first | rfl | (simp [PyData.eqv]; done) | (by_cases h : i = j <;> simp [PyData.eqv, h])
theorem toPys_map (xs : List Int) : toPys (xs.map P.int) = xs.map PyData.int := by
  induction xs with
  | nil => rfl
  | cons x r ih => rw [List.map_cons, List.map_cons]; unfold toPys; rw [ih]; rfl
theorem eqvAll_ints : ∀ (xs ys : List Int), PyData.eqvAll (xs.map PyData.int) (ys.map PyData.int) = decide (xs = ys)
  | [], [] => rfl
  | [], _ :: _ => by simp [PyData.eqvAll]
  | _ :: _, [] => by simp [PyData.eqvAll]
  | x :: xs, y :: ys => by
    rw [List.map_cons, List.map_cons]
    show (PyData.eqv (.int x) (.int y) && PyData.eqvAll (xs.map PyData.int) (ys.map PyData.int)) = _
    rw [eqvAll_ints xs ys]
    by_cases h : x = y <;> by_cases h2 : xs = ys <;> simp [PyData.eqv, h, h2]
@[simp] theorem eqP_tup (xs ys : List Int) : eqP (.tup (xs.map P.int)) (.tup (ys.map P.int)) = decide (xs = ys) := by
  show PyData.eqvAll (toPys (xs.map P.int)) (toPys (ys.map P.int)) = _
  rw [toPys_map, toPys_map, eqvAll_ints]
@[simp] theorem eqP_lst (xs ys : List Int) : eqP (.lst (xs.map P.int)) (.lst (ys.map P.int)) = decide (xs = ys) := by
  show PyData.eqvAll (toPys (xs.map P.int)) (toPys (ys.map P.int)) = _
  rw [toPys_map, toPys_map, eqvAll_ints]
theorem canLay_ints : ∀ xs : List Int, PyData.canLayAll0 (xs.map PyData.int) = true
  | [] => rfl
  | x :: r => by rw [List.map_cons]; show (PyData.canLay0 (.int x) && PyData.canLayAll0 (r.map PyData.int)) = true; rw [canLay_ints r]; rfl
theorem depth_ints0 : ∀ xs : List Int, PyData.depthAll (xs.map PyData.int) = 0
  | [] => rfl
  | x :: r => by rw [List.map_cons]; show max (PyData.depth (.int x)) (PyData.depthAll (r.map PyData.int)) = 0; rw [depth_ints0 r]; rfl
@[simp] theorem shP_int (i : Int) : shP (.int i) = true := rfl
@[simp] theorem shP_tup (xs : List Int) : shP (.tup (xs.map P.int)) = true := by
  show (PyData.canLayAll0 (toPys (xs.map P.int)) && decide (PyData.depthAll (toPys (xs.map P.int)) + 1 ≤ 64)) = true
  rw [toPys_map, canLay_ints, depth_ints0]; rfl
@[simp] theorem shP_lst (xs : List Int) : shP (.lst (xs.map P.int)) = true := by
  show (PyData.canLayAll0 (toPys (xs.map P.int)) && decide (PyData.depthAll (toPys (xs.map P.int)) + 1 ≤ 64)) = true
  rw [toPys_map, canLay_ints, depth_ints0]; rfl
/-- a cell that names no other -/
def plainC : Ct → Bool
  | .obj _ _ => false
  | .lsD _ => false
  | .tuD _ => false
  | _ => true
theorem plainC_cells {c : Ct} (h : plainC c = true) : cellsC c = [] := by cases c <;> first | rfl | cases h
theorem plainC_ren {c : Ct} {ids : List Nat} (h : plainC c = true) : renC ids c = some c := by cases c <;> first | rfl | cases h
theorem plainC_bk {c : Ct} {ids : List Nat} {n : Nat} (h : plainC c = true) : bkC ids n c = c := by cases c <;> first | rfl | cases h
theorem cellsA_fz : ∀ ps : List P, cellsA (ps.map D.fz) = []
  | [] => rfl
  | p :: r => by rw [List.map_cons]; show [] ++ cellsA (r.map D.fz) = []; rw [cellsA_fz r]; rfl
theorem renA_fz {ids : List Nat} : ∀ ps : List P, renA ids (ps.map D.fz) = some (ps.map D.fz)
  | [] => rfl
  | p :: r => by rw [List.map_cons]; unfold renA; rw [renA_fz r]; rfl
theorem callF_fz {F : DF} {ps : List P} {q : P} {η : Et} {st : Sr} (h : F (ps.map D.fz) [] = .ok (.fz q, [])) : callF F (ps.map D.fz) η st = .ok (.fz q, st) := by
  unfold callF
  rw [cellsA_fz]
  show callI F [] (ps.map D.fz) η st = _
  unfold callI
  rw [if_pos List.nodup_nil, renA_fz]
  show (match F (ps.map D.fz) [] with
    | .ok (d, st2) => if ([] : List Nat).length ≤ st2.length then R.ok (bkD [] st.length d, backS [] st st2) else .stuck
    | .exc c fs _ st2 => if ([] : List Nat).length ≤ st2.length then .exc c fs η (backS [] st st2) else .stuck
    | .stuck => .stuck) = _
  rw [h]
  show R.ok (D.fz q, putAll st [] _ ++ []) = _
  rw [List.append_nil]
  rfl
theorem callF_exc {F : DF} {ps : List P} {c : Str} {fs : Option (List (Str × P))} {η : Et} {st : Sr} (h : F (ps.map D.fz) [] = .exc c fs [] []) : callF F (ps.map D.fz) η st = .exc c fs η st := by
  unfold callF
  rw [cellsA_fz]
  show callI F [] (ps.map D.fz) η st = _
  unfold callI
  rw [if_pos List.nodup_nil, renA_fz]
  show (match F (ps.map D.fz) [] with
    | .ok (d, st2) => if ([] : List Nat).length ≤ st2.length then R.ok (bkD [] st.length d, backS [] st st2) else .stuck
    | .exc c fs _ st2 => if ([] : List Nat).length ≤ st2.length then .exc c fs η (backS [] st st2) else .stuck
    | .stuck => .stuck) = _
  rw [h]
  show R.exc c fs η (putAll st [] _ ++ []) = _
  rw [List.append_nil]
  rfl
theorem cellsA_c {n : Nat} {bs : List P} : ∀ as : List P, cellsA (as.map D.fz ++ .cell n :: bs.map D.fz) = [n]
  | [] => by show [n] ++ cellsA (bs.map D.fz) = [n]; rw [cellsA_fz]; rfl
  | a :: r => by show [] ++ cellsA (r.map D.fz ++ .cell n :: bs.map D.fz) = [n]; rw [cellsA_c r]; rfl
theorem idx_self (n : Nat) : idx n [n] = some 0 := by unfold idx; rw [if_pos rfl]
theorem renA_c {n : Nat} {bs : List P} : ∀ as : List P, renA [n] (as.map D.fz ++ .cell n :: bs.map D.fz) = some (as.map D.fz ++ .cell 0 :: bs.map D.fz)
  | [] => by
    show (match ren [n] (.cell n), renA [n] (bs.map D.fz) with
      | some d', some ds' => some (d' :: ds')
      | _, _ => none) = _
    rw [renA_fz]
    show (match (idx n [n]).map D.cell, some (bs.map D.fz) with
      | some d', some ds' => some (d' :: ds')
      | _, _ => none) = _
    rw [idx_self]
    rfl
  | a :: r => by
    show (match ren [n] (.fz a), renA [n] (r.map D.fz ++ .cell n :: bs.map D.fz) with
      | some d', some ds' => some (d' :: ds')
      | _, _ => none) = _
    rw [renA_c r]
    rfl
theorem reach_c {st : Sr} {n : Nat} {c : Ct} (hn : st[n]? = some c) (hc : plainC c = true) : reach st [n] = [n] := by
  have g1 : grow st [n] [n] = [n] := by
    show grow st (match st[n]? with | some c => addNew [n] (cellsC c) | none => [n]) [] = [n]
    rw [hn]
    show grow st (addNew [n] (cellsC c)) [] = [n]
    rw [plainC_cells hc]
    rfl
  show grow st (grow st [n] [n]) (grow st [n] [n]) = [n]
  rw [g1, g1]
theorem subS_c {st : Sr} {n : Nat} {c : Ct} (hn : st[n]? = some c) (hc : plainC c = true) : subS [n] st = some [c] := by
  show (match st[n]? with
    | some c => match renC [n] c, subG [n] st [] with
      | some c', some cs => some (c' :: cs)
      | _, _ => none
    | none => none) = _
  rw [hn]
  show (match renC [n] c, some ([] : Sr) with
      | some c', some cs => some (c' :: cs)
      | _, _ => none) = _
  rw [plainC_ren hc]
theorem nodup_one (n : Nat) : [n].Nodup := by simp
/-- one cell among the arguments -/
theorem callF_c {F : DF} {as bs : List P} {q : P} {c c' : Ct} {η : Et} {st : Sr} {n : Nat} (hn : st[n]? = some c) (hc : plainC c = true) (hc' : plainC c' = true) (h : F (as.map D.fz ++ .cell 0 :: bs.map D.fz) [c] = .ok (.fz q, [c'])) :
    callF F (as.map D.fz ++ .cell n :: bs.map D.fz) η st = .ok (.fz q, st.set n c') := by
  unfold callF
  rw [cellsA_c, reach_c hn hc]
  unfold callI
  rw [if_pos (nodup_one n), renA_c, subS_c hn hc]
  show (match F (as.map D.fz ++ .cell 0 :: bs.map D.fz) [c] with
    | .ok (d, st2) => if [n].length ≤ st2.length then R.ok (bkD [n] st.length d, backS [n] st st2) else .stuck
    | .exc c fs _ st2 => if [n].length ≤ st2.length then .exc c fs η (backS [n] st st2) else .stuck
    | .stuck => .stuck) = _
  rw [h]
  show R.ok (D.fz q, putAll st [n] ([c'].map (bkC [n] st.length)) ++ []) = _
  rw [List.append_nil, List.map_cons, List.map_nil, plainC_bk hc']
  rfl
end M
namespace M
open PySem L2
theorem exit0 {p : P} {st : Sr} : exitF true 0 (.fz p) st = .ok (.fz p, []) := by
  show exitI 0 (.fz p) st = _
  unfold exitI
  rw [if_pos ⟨rfl, List.nodup_nil⟩]
  rfl
theorem exit1 {p : P} {st : Sr} {c : Ct} (hn : st[0]? = some c) (hc : plainC c = true) : exitF true 1 (.fz p) st = .ok (.fz p, [c]) := by
  show exitI 1 (.fz p) st = _
  have e : reach st (List.range 1 ++ cellsD (.fz p)) = [0] := reach_c hn hc
  unfold exitI
  rw [e, if_pos ⟨rfl, nodup_one 0⟩, subS_c hn hc]
  rfl
theorem run1 {np n : Nat} {b : DS} {ds : List D} {p : P} {η' : Et} {st' : Sr} {c0 c : Ct} (hl : ds.length = np) (h : b (ds.map some ++ List.replicate (n - np) none) [c0] = .ok (.rt (.fz p), η', st')) (hn : st'[0]? = some c) (hc : plainC c = true) : runF np n true b ds [c0] = .ok (.fz p, [c]) := by
  unfold runF
  rw [if_pos hl, h]
  exact exit1 hn hc
end M
namespace M
open PySem L2
theorem ge62 (k : Nat) : -(2 ^ 62 : Int) ≤ (k : Int) := Int.le_trans (b := 0) (by decide +kernel) (Int.natCast_nonneg k)
theorem lt62 {k : Nat} (h : k ≤ 1000000) : (k : Int) < 2 ^ 62 := Int.lt_of_le_of_lt (b := ((1000000 : Nat) : Int)) (Int.ofNat_le.mpr h) (by decide +kernel)
theorem forR1_eq {f : DA} {g : DG} {b : DS} {η : Et} {st st' : Sr} {k : Nat} (hf : f η st = .ok ([.fz (.int k)], st')) (hk : k ≤ 1000000) : dForR1 f g b η st = loopD g b (rangeP 0 k) η st' := by
  unfold dForR1
  rw [hf, bind_ok]
  exact if_pos ⟨ge62 k, lt62 hk⟩
end M
namespace M
open PySem L2
theorem e64 : (2 ^ 64 : Int) = 18446744073709551616 := by decide +kernel
theorem mulO_l {i j : Int} {st : Sr} (h : -18446744073709551616 < i ∧ i < 18446744073709551616) : mulO (.fz (.int i)) (.fz (.int j)) st = .ok (.fz (.int (i * j)), st) := by
  show (if (-(2 ^ 64) < i ∧ i < 2 ^ 64) ∨ (-(2 ^ 64) < j ∧ j < 2 ^ 64) then R.ok (D.fz (.int (i * j)), st) else .stuck) = _
  exact if_pos (.inl (by rw [e64]; exact h))
theorem modO_ok {i j : Int} {st : Sr} (h : 0 < j) : modO (.fz (.int i)) (.fz (.int j)) st = .ok (.fz (.int (i % j)), st) := by
  show (match (if 0 < j then some (P.int (i % j)) else none) with | some p => R.ok (D.fz p, st) | none => .stuck) = _
  rw [if_pos h]
theorem fdivO_ok {i j : Int} {st : Sr} (h : 0 < j ∧ j < 1073741824) : fdivO (.fz (.int i)) (.fz (.int j)) st = .ok (.fz (.int (i / j)), st) := by
  show (match (if 0 < j ∧ j < 1073741824 then some (P.int (i / j)) else none) with | some p => R.ok (D.fz p, st) | none => .stuck) = _
  rw [if_pos h]
end M
end
section
set_option Elab.async false
set_option linter.all false
set_option maxRecDepth 100000
set_option maxHeartbeats 0
namespace M
open PySem L2
section
variable {η η' : Et} {st st' s1 s2 s3 : Sr} {f g h : DE} {fa ga : DA} {t u : DT} {a b c d : D} {as bs : List D} {p q : P} {i j n : Nat}
theorem e_var (h : η[i]? = some (some d)) : dVar i η st = .ok (d, st) := by unfold dVar; rw [h]
theorem e_k : dK p η st = .ok (.fz p, st) := rfl
theorem e_bin {o : D → D → Sr → R (D × Sr)} {r : R (D × Sr)} (h1 : f η st = .ok (a, s1)) (h2 : g η s1 = .ok (b, s2)) (h3 : o a b s2 = r) : dBin o f g η st = r := by
  unfold dBin; rw [h1, bind_ok]; dsimp only; rw [h2, bind_ok]; exact h3
theorem e_un {o : D → Sr → R (D × Sr)} {r : R (D × Sr)} (h1 : f η st = .ok (a, s1)) (h3 : o a s1 = r) : dUn o f η st = r := by
  unfold dUn; rw [h1, bind_ok]; exact h3
theorem e_nil : dNil η st = .ok ([], st) := rfl
theorem e_cons (h1 : f η st = .ok (a, s1)) (h2 : ga η s1 = .ok (bs, s2)) : dCons f ga η st = .ok (a :: bs, s2) := by
  unfold dCons; rw [h1, bind_ok]; dsimp only; rw [h2, bind_ok]
theorem e_ap {o : List D → Sr → R (D × Sr)} {r : R (D × Sr)} (h1 : ga η st = .ok (as, s1)) (h3 : o as s1 = r) : dAp o ga η st = r := by
  unfold dAp; rw [h1, bind_ok]; exact h3
theorem e_call {F : DF} {r : R (D × Sr)} (h1 : ga η st = .ok (as, s1)) (h3 : callF F as η s1 = r) : dCall F ga η st = r := by
  unfold dCall; rw [h1, bind_ok]; exact h3
theorem e_bm {ty : Sr → D → Bool} {o : D → List D → Sr → R (D × Sr)} {r : R (D × Sr)} (h1 : f η st = .ok (a, s1)) (ht : ty s1 a = true) (h2 : ga η s1 = .ok (bs, s2)) (h3 : o a bs s2 = r) : dBM ty o f ga η st = r := by
  unfold dBM; rw [h1, bind_ok]; dsimp only; rw [if_pos ht, h2, bind_ok]; exact h3
theorem e_meth {m : Str} {tab : List (Str × DF)} {F : DF} {r : R (D × Sr)} (h1 : f η st = .ok (a, s1)) (hc : ((clsM m s1 a).bind fun c => look1 c tab) = some F) (h2 : ga η s1 = .ok (bs, s2)) (h3 : callF F (a :: bs) η s2 = r) : dMeth m tab f ga η st = r := by
  unfold dMeth; rw [h1, bind_ok]; dsimp only; rw [hc]; dsimp only; rw [h2, bind_ok]; exact h3
theorem e_part {k : Int} (h1 : f η st = .ok (.fz (.int k), s1)) : dPart f η st = .ok (some k, s1) := by
  unfold dPart; rw [h1, bind_ok]
theorem e_tru {r : R (Bool × Sr)} (h1 : f η st = .ok (a, s1)) (h2 : truO a s1 = r) : dTru f η st = r := by
  unfold dTru; rw [h1, bind_ok]; exact h2
theorem e_not {x : Bool} (h1 : t η st = .ok (x, s1)) : dNot t η st = .ok (!x, s1) := by
  unfold dNot; rw [h1, bind_ok]
theorem e_or_f {r : R (Bool × Sr)} (h1 : t η st = .ok (false, s1)) (h2 : u η s1 = r) : dOr t u η st = r := by
  unfold dOr; rw [h1, bind_ok]; exact h2
theorem tru_bl {x y : Bool} (h : x = y) : truO (.fz (.bl x)) st = .ok (y, st) := by subst h; rfl
variable {x y : DS} {r : R (Fl × Et × Sr)}
theorem s_seq (h1 : x η st = .ok (.nx, η', s1)) (h2 : y η' s1 = r) : dSeq x y η st = r := by
  unfold dSeq; rw [h1]; exact h2
theorem s_skip : dSkip η st = .ok (.nx, η, st) := rfl
theorem s_ex (h1 : f η st = .ok (a, s1)) : dEx f η st = .ok (.nx, η, s1) := by
  unfold dEx; rw [h1]; rfl
theorem s_ret (h1 : f η st = .ok (a, s1)) : dRet f η st = .ok (.rt a, η, s1) := by
  unfold dRet; rw [h1]; rfl
theorem s_iff (h1 : t η st = .ok (false, s1)) (h2 : y η s1 = r) : dIf t x y η st = r := by
  unfold dIf; rw [h1, bind_ok]; exact h2
theorem s_forL {gg : DG} {xs : List P} (h1 : f η st = .ok (a, s1)) (h2 : toP s1 a = some (p, s2)) (h3 : itemsP p = some xs) (h4 : loopD gg x xs η s2 = r) : dForL f gg x η st = r := by
  unfold dForL; rw [h1, bind_ok]; dsimp only; rw [h2]; dsimp only; rw [h3]; exact h4
variable {pre more : Sr} {xs ys : List P}
theorem peek_lst (h : st[n]? = some (.lst xs)) : peek st (.cell n) = some (.lst xs) := by unfold peek; dsimp only; rw [h]
theorem append_at (hn : st[n]? = some (.lst xs)) (h : xs.length < 16777216) : appendO (.cell n) [.fz p] st = .ok (.fz .non, st.set n (.lst (xs ++ [p]))) := by
  unfold appendO; dsimp only [toP]; rw [hn]; dsimp only; rw [if_pos h]
theorem isLst_at (hn : st[n]? = some (.lst xs)) : isLst st (.cell n) = true := by unfold isLst; rw [peek_lst hn]
end
end M
end
section
set_option Elab.async false
set_option linter.all false
set_option maxRecDepth 100000
set_option maxHeartbeats 0
namespace M
open PySem L2
abbrev pw (ws : List Int) : P := .tup (ws.map P.int)
theorem cut_take (xs : List P) (k : Nat) : cutP xs none (some (k : Int)) = xs.take k := by
  unfold cutP
  rw [HT.sIx_none, HT.sIx_nat, List.drop_zero, Nat.sub_zero]
  exact List.take_eq_take_iff.mpr (by omega)
theorem cut_drop (xs : List P) (k : Nat) : cutP xs (some (k : Int)) none = xs.drop k := by
  unfold cutP
  rw [HT.sIx_none, HT.sIx_nat]
  by_cases h : k ≤ xs.length
  · rw [Nat.min_eq_left h]
    exact List.take_of_length_le (by simp)
  · rw [Nat.min_eq_right (by omega), List.drop_eq_nil_of_le (Nat.le_refl _), List.drop_eq_nil_of_le (by omega), List.take_nil]
section
variable {η η' : Et} {st st' s1 s2 s3 : Sr} {f g h : DE} {fa ga : DA} {a b c d : D} {as bs : List D} {p q : P} {i j n : Nat} {xs ys : List P}
/-- a list: frozen, in a cell, in a frozen cell -/
def IsL (st : Sr) (d : D) (xs : List P) : Prop := peek st d = some (.lst xs)
theorem IsL.fz : IsL st (.fz (.lst xs)) xs := rfl
theorem IsL.cell (h : st[n]? = some (.lst xs)) : IsL st (.cell n) xs := peek_lst h
theorem IsL.frz (h : st[n]? = some (.frz (.lst xs))) : IsL st (.cell n) xs := by unfold IsL peek; dsimp only; rw [h]
theorem callF_new {F : DF} {ps : List P} {ct : Ct} (h : F (ps.map D.fz) [] = .ok (.cell 0, [ct])) (hc : plainC ct = true) : callF F (ps.map D.fz) η st = .ok (.cell st.length, st ++ [ct]) := by
  unfold callF
  rw [cellsA_fz]
  show callI F [] (ps.map D.fz) η st = _
  unfold callI
  rw [if_pos List.nodup_nil, renA_fz]
  show (match F (ps.map D.fz) [] with
    | .ok (d, st2) => if ([] : List Nat).length ≤ st2.length then R.ok (bkD [] st.length d, backS [] st st2) else .stuck
    | .exc c fs _ st2 => if ([] : List Nat).length ≤ st2.length then .exc c fs η (backS [] st st2) else .stuck
    | .stuck => .stuck) = _
  rw [h]
  show R.ok (D.cell _, putAll st [] _ ++ [bkC [] st.length ct]) = _
  rw [plainC_bk hc]
  rfl
end
end M
end
section
set_option Elab.async false
set_option linter.all false
set_option maxRecDepth 100000
set_option maxHeartbeats 0
namespace M
open PySem L2
end M
end
section
set_option Elab.async false
set_option linter.all false
set_option maxRecDepth 100000
set_option maxHeartbeats 0
namespace M
open PySem L2
section
variable {η η' η1 : Et} {st st' s1 s2 s3 : Sr} {f g h : DE} {fa ga : DA} {t u : DT} {a b c d : D} {as bs : List D} {p q : P} {i j n : Nat} {xs ys : List P} {x y : DS} {r : R (Fl × Et × Sr)} {z : Int}
variable {ps qs : List (List Int)}
variable {cl : Str} {fs : Option (List (Str × P))}
theorem e_slF {l v : DO} {lo hi : Option Int} {r : R (D × Sr)} (h1 : f η st = .ok (a, s1)) (hl : l η s1 = .ok (lo, s2)) (hu : v η s2 = .ok (hi, s3)) (h3 : slF a lo hi s3 = r) : dSlF f l v η st = r := by
  unfold dSlF; rw [h1, bind_ok]; dsimp only; rw [hl, bind_ok]; dsimp only; rw [hu, bind_ok]; exact h3
end
end M
end
section
set_option Elab.async false
set_option linter.all false
set_option maxRecDepth 100000
set_option maxHeartbeats 0
namespace M
open PySem L2
end M
end
section
set_option Elab.async false
set_option linter.all false
set_option maxRecDepth 100000
set_option maxHeartbeats 0
namespace M
open PySem L2
end M
end
section
set_option Elab.async false
set_option linter.all false
namespace Kd
def chain (A B : List Int) : Prop := A <+: B ∨ B <+: A
theorem chain.symm {A B : List Int} (h : chain A B) : chain B A := Or.symm h
end Kd
end
section
set_option Elab.async false
set_option linter.all false
namespace Kd
inductive Inter : List (List Int) → List (List Int) → List (List Int) → Prop
  | nil : Inter [] [] []
  | left {r u v p} : Inter r u v → Inter (p :: r) (p :: u) v
  | right {r u v q} : Inter r u v → Inter (q :: r) u (q :: v)
theorem Inter.len {r u v : List (List Int)} (h : Inter r u v) : r.flatten.length = u.flatten.length + v.flatten.length := by
  induction h with
  | nil => rfl
  | left _ ih => simp only [List.flatten_cons, List.length_append] at *; omega
  | right _ ih => simp only [List.flatten_cons, List.length_append] at *; omega
end Kd
end
section
set_option Elab.async false
set_option linter.all false
namespace Kd
/-- a letter: its number, its time, its value -/
structure Lt where
  n : Int
  t : Int
  v : Int
/-- a change of the numbers alone -/
def ren (k : Int) (a : Lt) : Lt := ⟨a.n - k, a.t, a.v⟩
end Kd
end
section
set_option Elab.async false
set_option linter.all false
set_option maxRecDepth 100000
set_option maxHeartbeats 0
namespace N
open PySem L2 M
inductive Rs (α : Type) where
  | ok (a : α) | exc (c : Str) (fs : Option (List (Str × P))) | stuck
variable {α β γ δ σ ρ τ : Type}
def Rs.bind (m : Rs α) (k : α → Rs β) : Rs β := match m with
  | .ok a => k a
  | .exc c fs => .exc c fs
  | .stuck => .stuck
@[simp] theorem ok_bind (a : α) (k : α → Rs β) : (Rs.ok a).bind k = k a := rfl
@[simp] theorem stuck_bind (k : α → Rs β) : (Rs.stuck : Rs α).bind k = .stuck := rfl
@[simp] theorem exc_bind (c : Str) (fs : Option (List (Str × P))) (k : α → Rs β) : (Rs.exc c fs : Rs α).bind k = .exc c fs := rfl
class Em (α : Type) where
  em : α → P
abbrev em [Em α] (a : α) : P := Em.em a
abbrev fe [Em α] (a : α) : D := .fz (em a)
/-- a tuple of any length -/
structure Tu (α : Type) where
  l : List α
  deriving DecidableEq
structure T1 (α : Type) where
  a : α
  deriving DecidableEq
structure T2 (α β : Type) where
  a : α
  b : β
  deriving DecidableEq
structure T3 (α β γ : Type) where
  a : α
  b : β
  c : γ
  deriving DecidableEq
structure T4 (α β γ δ : Type) where
  a : α
  b : β
  c : γ
  d : δ
  deriving DecidableEq
structure T5 (α β γ δ σ : Type) where
  a : α
  b : β
  c : γ
  d : δ
  e : σ
  deriving DecidableEq
structure T6 (α β γ δ σ τ : Type) where
  a : α
  b : β
  c : γ
  d : δ
  e : σ
  f : τ
  deriving DecidableEq
instance : Em Int := ⟨.int⟩
instance : Em Bool := ⟨.bl⟩
instance : Em Str := ⟨.str⟩
instance : Em Unit := ⟨fun _ => .non⟩
instance : Em P := ⟨id⟩
instance [Em α] : Em (List α) := ⟨fun xs => .lst (xs.map em)⟩
instance [Em α] : Em (Tu α) := ⟨fun xs => .tup (xs.l.map em)⟩
instance [Em α] : Em (Option α) := ⟨fun o => match o with | some a => em a | none => .non⟩
instance [Em α] : Em (T1 α) := ⟨fun t => .tup [em t.a]⟩
instance [Em α] [Em β] : Em (T2 α β) := ⟨fun t => .tup [em t.a, em t.b]⟩
instance [Em α] [Em β] [Em γ] : Em (T3 α β γ) := ⟨fun t => .tup [em t.a, em t.b, em t.c]⟩
instance [Em α] [Em β] [Em γ] [Em δ] : Em (T4 α β γ δ) := ⟨fun t => .tup [em t.a, em t.b, em t.c, em t.d]⟩
instance [Em α] [Em β] [Em γ] [Em δ] [Em σ] : Em (T5 α β γ δ σ) := ⟨fun t => .tup [em t.a, em t.b, em t.c, em t.d, em t.e]⟩
instance [Em α] [Em β] [Em γ] [Em δ] [Em σ] [Em τ] : Em (T6 α β γ δ σ τ) := ⟨fun t => .tup [em t.a, em t.b, em t.c, em t.d, em t.e, em t.f]⟩
class EmE (α : Type) [Em α] [DecidableEq α] where
  eqe : ∀ a b : α, PyData.eqv (toPy (em a)) (toPy (em b)) = decide (a = b)
  can : ∀ a : α, PyData.canLay0 (toPy (em a)) = true
  dep : Nat
  dle : ∀ a : α, PyData.depth (toPy (em a)) ≤ dep
open EmE
theorem toPys_em [Em α] : ∀ xs : List α, toPys (xs.map em) = xs.map fun a => toPy (em a)
  | [] => rfl
  | x :: xs => by rw [List.map_cons]; unfold toPys; rw [toPys_em xs]; rfl
theorem eqvAll_em [Em α] [DecidableEq α] [EmE α] : ∀ xs ys : List α, PyData.eqvAll (xs.map fun a => toPy (em a)) (ys.map fun a => toPy (em a)) = decide (xs = ys)
  | [], [] => rfl
  | [], _ :: _ => by simp [PyData.eqvAll]
  | _ :: _, [] => by simp [PyData.eqvAll]
  | x :: xs, y :: ys => by
    rw [List.map_cons, List.map_cons, PyData.eqvAll, eqe, eqvAll_em xs ys]
    by_cases h : x = y <;> by_cases h2 : xs = ys <;> simp [h, h2]
theorem canAll_em [Em α] [DecidableEq α] [EmE α] : ∀ xs : List α, PyData.canLayAll0 (xs.map fun a => toPy (em a)) = true
  | [] => rfl
  | x :: xs => by rw [List.map_cons, PyData.canLayAll0, can, canAll_em xs]; rfl
theorem depAll_em [Em α] [DecidableEq α] [EmE α] : ∀ xs : List α, PyData.depthAll (xs.map fun a => toPy (em a)) ≤ dep α
  | [] => Nat.zero_le _
  | x :: xs => by rw [List.map_cons, PyData.depthAll]; exact Nat.max_le.mpr ⟨dle x, depAll_em xs⟩
instance : EmE Int := ⟨fun a b => by show PyData.eqv (.int a) (.int b) = _; rw [PyData.eqv]; rfl, fun _ => rfl, 0, fun _ => Nat.le_refl _⟩
instance : EmE Bool := ⟨fun a b => by cases a <;> cases b <;> decide, fun _ => rfl, 0, fun _ => Nat.le_refl _⟩
instance : EmE Unit := ⟨fun a b => rfl, fun _ => rfl, 0, fun _ => Nat.le_refl _⟩
instance [Em α] [DecidableEq α] [EmE α] : EmE (List α) := ⟨fun a b => by
    show PyData.eqv (.list (toPys (a.map em))) (.list (toPys (b.map em))) = _
    rw [toPys_em, toPys_em, PyData.eqv]; exact eqvAll_em a b, fun a => by
    show PyData.canLay0 (.list (toPys (a.map em))) = _
    rw [toPys_em]; exact canAll_em a, dep α + 1, fun a => by
    show PyData.depth (.list (toPys (a.map em))) ≤ _
    rw [toPys_em]; exact Nat.succ_le_succ (depAll_em a)⟩
instance [Em α] [DecidableEq α] [EmE α] : EmE (Tu α) := ⟨fun a b => by
    show PyData.eqv (.tuple (toPys (a.l.map em))) (.tuple (toPys (b.l.map em))) = _
    rw [toPys_em, toPys_em, PyData.eqv]; refine (eqvAll_em a.l b.l).trans ?_
    cases a; cases b; simp, fun a => by
    show PyData.canLay0 (.tuple (toPys (a.l.map em))) = _
    rw [toPys_em]; exact canAll_em a.l, dep α + 1, fun a => by
    show PyData.depth (.tuple (toPys (a.l.map em))) ≤ _
    rw [toPys_em]; exact Nat.succ_le_succ (depAll_em a.l)⟩
/-- no value of the type is None -/
class NoN (α : Type) [Em α] : Prop where
  nn : ∀ a : α, PyData.eqv (toPy (em a)) .none = false ∧ PyData.eqv .none (toPy (em a)) = false ∧ (em a).isNon = false
instance : NoN Int := ⟨fun _ => ⟨rfl, rfl, rfl⟩⟩
instance : NoN Bool := ⟨fun _ => ⟨rfl, rfl, rfl⟩⟩
instance : NoN Str := ⟨fun _ => ⟨rfl, rfl, rfl⟩⟩
instance [Em α] : NoN (List α) := ⟨fun _ => ⟨rfl, rfl, rfl⟩⟩
instance [Em α] : NoN (Tu α) := ⟨fun _ => ⟨rfl, rfl, rfl⟩⟩
instance [Em α] : NoN (T1 α) := ⟨fun _ => ⟨rfl, rfl, rfl⟩⟩
instance [Em α] [Em β] : NoN (T2 α β) := ⟨fun _ => ⟨rfl, rfl, rfl⟩⟩
instance [Em α] [Em β] [Em γ] : NoN (T3 α β γ) := ⟨fun _ => ⟨rfl, rfl, rfl⟩⟩
instance [Em α] [Em β] [Em γ] [Em δ] : NoN (T4 α β γ δ) := ⟨fun _ => ⟨rfl, rfl, rfl⟩⟩
instance [Em α] [Em β] [Em γ] [Em δ] [Em σ] : NoN (T5 α β γ δ σ) := ⟨fun _ => ⟨rfl, rfl, rfl⟩⟩
instance [Em α] [Em β] [Em γ] [Em δ] [Em σ] [Em τ] : NoN (T6 α β γ δ σ τ) := ⟨fun _ => ⟨rfl, rfl, rfl⟩⟩
instance [Em α] [DecidableEq α] [EmE α] [NoN α] : EmE (Option α) := ⟨fun a b => by
    cases a with
    | none => cases b with
      | none => rfl
      | some b => exact (NoN.nn b).2.1.trans (by simp)
    | some a => cases b with
      | none => exact (NoN.nn a).1.trans (by simp)
      | some b => exact (eqe a b).trans (by simp), fun a => by
    cases a with
    | none => rfl
    | some a => exact can a, dep α, fun a => by
    cases a with
    | none => exact Nat.zero_le _
    | some a => exact dle a⟩
instance [Em α] [DecidableEq α] [EmE α] : EmE (T1 α) := ⟨fun a b => by
    show PyData.eqvAll (toPys [em a.a]) (toPys [em b.a]) = _
    simp only [toPys, PyData.eqvAll, eqe]; cases a; cases b; simp, fun a => by
    show PyData.canLayAll0 (toPys [em a.a]) = true
    simp only [toPys, PyData.canLayAll0, can]; rfl, dep α + 1, fun a => by
    show PyData.depthAll (toPys [em a.a]) + 1 ≤ _
    have h1 := dle a.a
    simp only [toPys, PyData.depthAll]; omega⟩
instance [Em α] [DecidableEq α] [EmE α] [Em β] [DecidableEq β] [EmE β] : EmE (T2 α β) := ⟨fun a b => by
    show PyData.eqvAll (toPys [em a.a, em a.b]) (toPys [em b.a, em b.b]) = _
    simp only [toPys, PyData.eqvAll, eqe]; cases a; cases b; simp, fun a => by
    show PyData.canLayAll0 (toPys [em a.a, em a.b]) = true
    simp only [toPys, PyData.canLayAll0, can]; rfl, max (dep α) (dep β) + 1, fun a => by
    show PyData.depthAll (toPys [em a.a, em a.b]) + 1 ≤ _
    have h1 := dle a.a
    have h2 := dle a.b
    simp only [toPys, PyData.depthAll]; omega⟩
instance [Em α] [DecidableEq α] [EmE α] [Em β] [DecidableEq β] [EmE β] [Em γ] [DecidableEq γ] [EmE γ] : EmE (T3 α β γ) := ⟨fun a b => by
    show PyData.eqvAll (toPys [em a.a, em a.b, em a.c]) (toPys [em b.a, em b.b, em b.c]) = _
    simp only [toPys, PyData.eqvAll, eqe]; cases a; cases b; simp, fun a => by
    show PyData.canLayAll0 (toPys [em a.a, em a.b, em a.c]) = true
    simp only [toPys, PyData.canLayAll0, can]; rfl, max (dep α) (max (dep β) (dep γ)) + 1, fun a => by
    show PyData.depthAll (toPys [em a.a, em a.b, em a.c]) + 1 ≤ _
    have h1 := dle a.a
    have h2 := dle a.b
    have h3 := dle a.c
    simp only [toPys, PyData.depthAll]; omega⟩
instance [Em α] [DecidableEq α] [EmE α] [Em β] [DecidableEq β] [EmE β] [Em γ] [DecidableEq γ] [EmE γ] [Em δ] [DecidableEq δ] [EmE δ] : EmE (T4 α β γ δ) := ⟨fun a b => by
    show PyData.eqvAll (toPys [em a.a, em a.b, em a.c, em a.d]) (toPys [em b.a, em b.b, em b.c, em b.d]) = _
    simp only [toPys, PyData.eqvAll, eqe]; cases a; cases b; simp, fun a => by
    show PyData.canLayAll0 (toPys [em a.a, em a.b, em a.c, em a.d]) = true
    simp only [toPys, PyData.canLayAll0, can]; rfl, max (dep α) (max (dep β) (max (dep γ) (dep δ))) + 1, fun a => by
    show PyData.depthAll (toPys [em a.a, em a.b, em a.c, em a.d]) + 1 ≤ _
    have h1 := dle a.a
    have h2 := dle a.b
    have h3 := dle a.c
    have h4 := dle a.d
    simp only [toPys, PyData.depthAll]; omega⟩
instance [Em α] [DecidableEq α] [EmE α] [Em β] [DecidableEq β] [EmE β] [Em γ] [DecidableEq γ] [EmE γ] [Em δ] [DecidableEq δ] [EmE δ] [Em σ] [DecidableEq σ] [EmE σ] : EmE (T5 α β γ δ σ) := ⟨fun a b => by
    show PyData.eqvAll (toPys [em a.a, em a.b, em a.c, em a.d, em a.e]) (toPys [em b.a, em b.b, em b.c, em b.d, em b.e]) = _
    simp only [toPys, PyData.eqvAll, eqe]; cases a; cases b; simp, fun a => by
    show PyData.canLayAll0 (toPys [em a.a, em a.b, em a.c, em a.d, em a.e]) = true
    simp only [toPys, PyData.canLayAll0, can]; rfl, max (dep α) (max (dep β) (max (dep γ) (max (dep δ) (dep σ)))) + 1, fun a => by
    show PyData.depthAll (toPys [em a.a, em a.b, em a.c, em a.d, em a.e]) + 1 ≤ _
    have h1 := dle a.a
    have h2 := dle a.b
    have h3 := dle a.c
    have h4 := dle a.d
    have h5 := dle a.e
    simp only [toPys, PyData.depthAll]; omega⟩
theorem eqP_em [Em α] [DecidableEq α] [EmE α] (a b : α) : eqP (em a) (em b) = decide (a = b) := eqe a b
theorem shP_em [Em α] [DecidableEq α] [EmE α] (a : α) (h : dep α ≤ 64 := by decide) : shP (em a) = true := by
  show (PyData.canLay0 (toPy (em a)) && decide (PyData.depth (toPy (em a)) ≤ 64)) = true
  rw [can]
  exact decide_eq_true (Nat.le_trans (dle a) h)
end N
end
section
set_option Elab.async false
set_option linter.all false
set_option maxRecDepth 100000
set_option maxHeartbeats 0
namespace N
open PySem L2 M
/-- c: one cell, as it lies; v: frozen data; obj, ls: a cell whose parts are trees; base: all cells below are held by the first r entries -/
inductive Tr where
  | c (ct : Ct) | v (p : P) | obj (cl : Str) (fs : List (Str × Tr)) | ls (xs : List Tr) | base (r : Nat)
abbrev Tr.lst (xs : List P) : Tr := .c (.lst xs)
abbrev Tr.dct (xs : List (Key × P)) : Tr := .c (.dct xs)
abbrev Tr.frz (p : P) : Tr := .c (.frz p)
abbrev Tr.lsD (xs : List D) : Tr := .c (.lsD xs)
abbrev Tr.tuD (xs : List D) : Tr := .c (.tuD xs)
mutual
/-- tree t stands at d, in the cells ids -/
def At (st : Sr) : Tr → D → List Nat → Prop
  | .c ct, d, ids => ∃ n, d = .cell n ∧ ids = [n] ∧ st[n]? = some ct
  | .v p, d, ids => d = .fz p ∧ ids = []
  | .obj cl fs, d, ids => ∃ n ds is, d = .cell n ∧ ids = n :: is ∧ st[n]? = some (.obj cl ds) ∧ AtF st fs ds is
  | .ls xs, d, ids => ∃ n ds is, d = .cell n ∧ ids = n :: is ∧ st[n]? = some (.lsD ds) ∧ AtL st xs ds is
  | .base _, _, ids => ids = []
def AtF (st : Sr) : List (Str × Tr) → List (Str × D) → List Nat → Prop
  | [], ds, ids => ds = [] ∧ ids = []
  | (f, t) :: fs, ds, ids => ∃ d r i j, ds = (f, d) :: r ∧ ids = i ++ j ∧ At st t d i ∧ AtF st fs r j
def AtL (st : Sr) : List Tr → List D → List Nat → Prop
  | [], ds, ids => ds = [] ∧ ids = []
  | t :: ts, ds, ids => ∃ d r i j, ds = d :: r ∧ ids = i ++ j ∧ At st t d i ∧ AtL st ts r j
end
section
variable {st st' : Sr}
mutual
theorem At.frame : ∀ {t : Tr} {d : D} {ids : List Nat}, (∀ i ∈ ids, st'[i]? = st[i]?) → At st t d ids → At st' t d ids
  | .c ct, d, ids, h, a => by
    obtain ⟨n, e1, e2, e3⟩ := a
    exact ⟨n, e1, e2, by rw [h n (by rw [e2]; simp)]; exact e3⟩
  | .v p, d, ids, h, a => a
  | .base _, d, ids, h, a => a
  | .obj cl fs, d, ids, h, a => by
    obtain ⟨n, ds, is, e1, e2, e3, e4⟩ := a
    exact ⟨n, ds, is, e1, e2, by rw [h n (by rw [e2]; simp)]; exact e3, AtF.frame (fun i hi => h i (by rw [e2]; exact List.mem_cons_of_mem _ hi)) e4⟩
  | .ls xs, d, ids, h, a => by
    obtain ⟨n, ds, is, e1, e2, e3, e4⟩ := a
    exact ⟨n, ds, is, e1, e2, by rw [h n (by rw [e2]; simp)]; exact e3, AtL.frame (fun i hi => h i (by rw [e2]; exact List.mem_cons_of_mem _ hi)) e4⟩
theorem AtF.frame : ∀ {fs : List (Str × Tr)} {ds : List (Str × D)} {ids : List Nat}, (∀ i ∈ ids, st'[i]? = st[i]?) → AtF st fs ds ids → AtF st' fs ds ids
  | [], ds, ids, h, a => a
  | (f, t) :: fs, ds, ids, h, a => by
    obtain ⟨d, r, i, j, e1, e2, e3, e4⟩ := a
    exact ⟨d, r, i, j, e1, e2, At.frame (fun k hk => h k (by rw [e2]; exact List.mem_append_left _ hk)) e3, AtF.frame (fun k hk => h k (by rw [e2]; exact List.mem_append_right _ hk)) e4⟩
theorem AtL.frame : ∀ {ts : List Tr} {ds : List D} {ids : List Nat}, (∀ i ∈ ids, st'[i]? = st[i]?) → AtL st ts ds ids → AtL st' ts ds ids
  | [], ds, ids, h, a => a
  | t :: ts, ds, ids, h, a => by
    obtain ⟨d, r, i, j, e1, e2, e3, e4⟩ := a
    exact ⟨d, r, i, j, e1, e2, At.frame (fun k hk => h k (by rw [e2]; exact List.mem_append_left _ hk)) e3, AtL.frame (fun k hk => h k (by rw [e2]; exact List.mem_append_right _ hk)) e4⟩
end
theorem lt_of_at {n : Nat} {c : Ct} (h : st[n]? = some c) : n < st.length := (List.getElem?_eq_some_iff.mp h).1
mutual
theorem At.lt : ∀ {t : Tr} {d : D} {ids : List Nat}, At st t d ids → ∀ i ∈ ids, i < st.length
  | .c ct, d, ids, a, i, hi => by
    obtain ⟨n, e1, e2, e3⟩ := a
    rw [e2, List.mem_singleton] at hi
    subst hi; exact lt_of_at e3
  | .v p, d, ids, a, i, hi => by rw [a.2] at hi; cases hi
  | .base _, d, ids, a, i, hi => by rw [show ids = [] from a] at hi; cases hi
  | .obj cl fs, d, ids, a, i, hi => by
    obtain ⟨n, ds, is, e1, e2, e3, e4⟩ := a
    rw [e2] at hi
    rcases List.mem_cons.mp hi with rfl | hi
    · exact lt_of_at e3
    · exact AtF.lt e4 i hi
  | .ls xs, d, ids, a, i, hi => by
    obtain ⟨n, ds, is, e1, e2, e3, e4⟩ := a
    rw [e2] at hi
    rcases List.mem_cons.mp hi with rfl | hi
    · exact lt_of_at e3
    · exact AtL.lt e4 i hi
theorem AtF.lt : ∀ {fs : List (Str × Tr)} {ds : List (Str × D)} {ids : List Nat}, AtF st fs ds ids → ∀ i ∈ ids, i < st.length
  | [], ds, ids, a, i, hi => by rw [a.2] at hi; cases hi
  | (f, t) :: fs, ds, ids, a, i, hi => by
    obtain ⟨d, r, k, j, e1, e2, e3, e4⟩ := a
    rw [e2] at hi
    rcases List.mem_append.mp hi with hi | hi
    · exact At.lt e3 i hi
    · exact AtF.lt e4 i hi
theorem AtL.lt : ∀ {ts : List Tr} {ds : List D} {ids : List Nat}, AtL st ts ds ids → ∀ i ∈ ids, i < st.length
  | [], ds, ids, a, i, hi => by rw [a.2] at hi; cases hi
  | t :: ts, ds, ids, a, i, hi => by
    obtain ⟨d, r, k, j, e1, e2, e3, e4⟩ := a
    rw [e2] at hi
    rcases List.mem_append.mp hi with hi | hi
    · exact At.lt e3 i hi
    · exact AtL.lt e4 i hi
end
end
/-- the trees that are known to stand in a store -/
abbrev Ow := List (Nat × Tr)
def noBase : Ow → Bool
  | (_, .base _) :: _ => false
  | _ => true
structure OwnW (L : Ow) (st : Sr) (w : List (List Nat)) : Prop where
  len : w.length = L.length
  nd : w.flatten.Nodup
  at_ : ∀ (k n : Nat) (t : Tr) (ids : List Nat), L[k]? = some (n, t) → w[k]? = some ids → At st t (.cell n) ids
  cov : ∀ (m r : Nat), L[0]? = some (m, .base r) → ∀ i, i < m → i ∈ (w.take (r + 1)).flatten
def Own (L : Ow) (st : Sr) : Prop := ∃ w, OwnW L st w
theorem nodup_flatW {w : List (List Nat)} : w.flatten.Nodup ↔ (∀ l ∈ w, l.Nodup) ∧ w.Pairwise fun a b => ∀ x, x ∈ a → x ∈ b → False := by
  unfold List.Nodup
  rw [List.pairwise_flatten]
  refine and_congr Iff.rfl ⟨fun h => h.imp fun q x h1 h2 => q x h1 x h2 rfl, fun h => h.imp fun q x h1 y h2 e => q x h1 (by rw [e]; exact h2)⟩
theorem w_uniq {w : List (List Nat)} (h : w.flatten.Nodup) {i j x : Nat} {a b : List Nat} (hi : w[i]? = some a) (hj : w[j]? = some b) (ha : x ∈ a) (hb : x ∈ b) : i = j := by
  have hp := (nodup_flatW.mp h).2
  obtain ⟨l1, e1⟩ := List.getElem?_eq_some_iff.mp hi
  obtain ⟨l2, e2⟩ := List.getElem?_eq_some_iff.mp hj
  rcases Nat.lt_trichotomy i j with c | c | c
  · exact absurd hb (by have := List.pairwise_iff_getElem.mp hp i j l1 l2 c; rw [e1, e2] at this; exact fun q => this _ ha q)
  · exact c
  · exact absurd ha (by have := List.pairwise_iff_getElem.mp hp j i l2 l1 c; rw [e1, e2] at this; exact fun q => this _ hb q)
theorem Own.nil (st : Sr) : Own [] st := ⟨[], rfl, List.nodup_nil, fun k n t ids h => by simp at h, fun m r h => by simp at h⟩
section
variable {L : Ow} {st : Sr}
theorem OwnW.get {w : List (List Nat)} (h : OwnW L st w) {k n : Nat} {c : Ct} (hk : L[k]? = some (n, .c c)) : st[n]? = some c ∧ w[k]? = some [n] := by
  have hl := (List.getElem?_eq_some_iff.mp hk).1
  rw [← h.len] at hl
  have hw := List.getElem?_eq_getElem hl
  obtain ⟨m, e1, e2, e3⟩ := h.at_ k n _ _ hk hw
  cases e1
  exact ⟨e3, by rw [hw, e2]⟩
theorem Own.get (h : Own L st) (k : Nat) {n : Nat} {c : Ct} (hk : L[k]? = some (n, .c c)) : st[n]? = some c := let ⟨_, w⟩ := h; (w.get hk).1
theorem Own.ne (h : Own L st) {i j n m : Nat} {c d : Ct} (hi : L[i]? = some (n, .c c)) (hj : L[j]? = some (m, .c d)) (hn : n = m) : i = j := by
  obtain ⟨w, h⟩ := h
  exact w_uniq h.nd (h.get hi).2 (h.get hj).2 (List.mem_singleton.mpr rfl) (by rw [hn]; exact List.mem_singleton.mpr rfl)
theorem OwnW.lt {w : List (List Nat)} (h : OwnW L st w) : ∀ i ∈ w.flatten, i < st.length := fun i hi => by
  obtain ⟨ids, h1, h2⟩ := List.mem_flatten.mp hi
  obtain ⟨k, hk⟩ := List.getElem?_of_mem h1
  have hl := (List.getElem?_eq_some_iff.mp hk).1
  rw [h.len] at hl
  exact (h.at_ k _ _ ids (List.getElem?_eq_getElem hl) hk).lt i h2
theorem Own.set (h : Own L st) {k n : Nat} {c : Ct} (hk : L[k]? = some (n, .c c)) (c' : Ct) : Own (L.set k (n, .c c')) (st.set n c') := by
  obtain ⟨w, h⟩ := h
  obtain ⟨hs, hw⟩ := h.get hk
  have hkl := (List.getElem?_eq_some_iff.mp hk).1
  refine ⟨w, by rw [List.length_set]; exact h.len, h.nd, fun j m t ids hj hj2 => ?_, fun m r e => ?_⟩
  · by_cases q : k = j
    · subst q
      rw [List.getElem?_set_self hkl] at hj
      cases hj
      rw [hw] at hj2
      cases hj2
      exact ⟨n, rfl, rfl, List.getElem?_set_self (lt_of_at hs)⟩
    · rw [List.getElem?_set_ne q] at hj
      refine (h.at_ j m t ids hj hj2).frame fun i hi => List.getElem?_set_ne ?_
      rintro rfl
      exact q (w_uniq h.nd hw hj2 (List.mem_singleton.mpr rfl) hi)
  · refine h.cov m r ?_
    by_cases q : k = 0
    · subst q
      rw [List.getElem?_set_self hkl] at e
      cases e
    · rwa [List.getElem?_set_ne q] at e
theorem Own.new (h : Own L st) (c : Ct) : Own (L ++ [(st.length, .c c)]) (st ++ [c]) := by
  obtain ⟨w, h⟩ := h
  refine ⟨w ++ [[st.length]], by rw [List.length_append, List.length_append, h.len]; rfl, ?_, fun j m t ids hj hj2 => ?_, fun m r e i hi => ?_⟩
  · rw [List.flatten_append, List.nodup_append]
    refine ⟨h.nd, by simp, fun a ha b hb => ?_⟩
    have := h.lt a ha
    simp at hb
    omega
  · by_cases q : j < L.length
    · rw [List.getElem?_append_left q] at hj
      rw [List.getElem?_append_left (by rw [h.len]; exact q)] at hj2
      have a := h.at_ j m t ids hj hj2
      exact a.frame fun i hi => List.getElem?_append_left (a.lt i hi)
    · have hjl := (List.getElem?_eq_some_iff.mp hj).1
      rw [List.length_append, List.length_singleton] at hjl
      have hjj : j = L.length := by omega
      subst hjj
      rw [List.getElem?_append_right (Nat.le_refl _), Nat.sub_self] at hj
      rw [← h.len, List.getElem?_append_right (Nat.le_refl _), Nat.sub_self] at hj2
      cases hj
      cases hj2
      exact ⟨_, rfl, rfl, by simp⟩
  · cases L with
    | nil => cases e
    | cons x L =>
      have := h.cov m r e i hi
      rw [List.take_append, List.flatten_append]
      exact List.mem_append_left _ this
/-- entries that are single cells -/
theorem Own.of (hn : (L.map Prod.fst).Nodup) (hc : ∀ (k n : Nat) (t : Tr), L[k]? = some (n, t) → ∃ c, t = .c c ∧ st[n]? = some c) : Own L st := by
  refine ⟨L.map fun x => [x.1], by rw [List.length_map], ?_, fun k n t ids h1 h2 => ?_, fun m r e => ?_⟩
  · have : (L.map fun x => [x.1]).flatten = L.map Prod.fst := by
      clear hn hc
      induction L with
      | nil => rfl
      | cons x L ih => rw [List.map_cons, List.flatten_cons, ih]; rfl
    rw [this]; exact hn
  · obtain ⟨c, rfl, h3⟩ := hc k n t h1
    rw [List.getElem?_map, h1] at h2
    cases h2
    exact ⟨n, rfl, rfl, h3⟩
  · obtain ⟨c, h, _⟩ := hc 0 m _ e
    cases h
theorem Own.framed {st' : Sr} (h : Own L st) (he : ∀ i, i < st.length → st'[i]? = st[i]?) : Own L st' := by
  obtain ⟨w, h⟩ := h
  exact ⟨w, h.len, h.nd, fun k n t ids h1 h2 => (h.at_ k n t ids h1 h2).frame fun i hi => he i ((h.at_ k n t ids h1 h2).lt i hi), h.cov⟩
theorem Own.more (h : Own L st) (cs : Sr) : Own L (st ++ cs) := h.framed fun _ hi => List.getElem?_append_left hi
theorem Own.one (c0 : Ct) : Own [(0, .c c0)] [c0] := Own.of (by simp) fun k n t h => by
  match k, h with
  | 0, h => cases h; exact ⟨c0, rfl, rfl⟩
end
end N
end
section
set_option Elab.async false
set_option linter.all false
set_option maxRecDepth 100000
set_option maxHeartbeats 0
namespace N
open PySem L2 M
variable {α β γ δ σ ρ τ κ J : Type}
abbrev XP := Et → Sr → Prop
/-- what native m promises of c -/
def Wk (L : Ow) (m : Rs γ) (c : Sr → R α) (Q : γ → α → Prop) (X : XP) : Prop := ∀ st, Own L st → match m with
  | .ok g => ∃ a, c st = .ok a ∧ Q g a
  | .exc cl fs => ∃ η st', c st = .exc cl fs η st' ∧ X η st'
  | .stuck => True
/-- a value without any doing -/
def Ev (L : Ow) (c : Sr → R (β × Sr)) (v : β) : Prop := ∀ st, Own L st → c st = .ok (v, st)
def PV (rep : γ → β) (L' : γ → Ow) : γ → (β × Sr) → Prop := fun g a => a.1 = rep g ∧ Own (L' g) a.2
/-- a new cell -/
def PC (ct : γ → Ct) (L' : γ → Ow) : γ → (D × Sr) → Prop := fun g a => ∃ n, a.1 = .cell n ∧ Own (L' g ++ [(n, .c (ct g))]) a.2
def th (c : Sr → R (β × Sr)) (K : β → Sr → R α) : Sr → R α := fun st => (c st).bind fun a => K a.1 a.2
section
variable {L L1 : Ow} {m : Rs γ} {Q : γ → α → Prop} {X : XP} {η : Et} {c : Sr → R (β × Sr)} {K : β → Sr → R α} {v : β}
theorem we (h : Ev L c v) (hk : Wk L m (K v) Q X) : Wk L m (th c K) Q X := fun st o => by
  have e : th c K st = K v st := by unfold th; rw [h st o]; rfl
  have := hk st o
  rw [← e] at this
  exact this
theorem wv {m1 : Rs δ} {k : δ → Rs γ} {rep : δ → β} {L' : δ → Ow} (h : Wk L m1 c (PV rep L') X) (hk : ∀ g, Wk (L' g) (k g) (K (rep g)) Q X) : Wk L (m1.bind k) (th c K) Q X := fun st o => by
  have h := h st o
  cases m1 with
  | stuck => trivial
  | exc cl fs =>
    obtain ⟨e, st', h1, h2⟩ := h
    exact ⟨e, st', by unfold th; rw [h1]; rfl, h2⟩
  | ok g =>
    obtain ⟨⟨b, st'⟩, h1, h2, h3⟩ := h
    cases h2
    have e : th c K st = K (rep g) st' := by unfold th; rw [h1]; rfl
    have := hk g st' h3
    rw [← e] at this
    exact this
/-- a pure value as a native one -/
theorem w_ev {rep : γ → β} {t : γ} (h : Ev L c (rep t)) : Wk L (.ok t) c (PV rep fun _ => L) X := fun st o => ⟨_, h st o, rfl, o⟩
theorem w_stuck {c : Sr → R α} : Wk L .stuck c Q X := fun _ _ => trivial
theorem Wk.mono {c : Sr → R α} {Q' : γ → α → Prop} (h : Wk L m c Q X) (hq : ∀ g a, Q g a → Q' g a) : Wk L m c Q' X := fun st o => by
  have h := h st o
  cases m with
  | stuck => trivial
  | exc cl fs => exact h
  | ok g => obtain ⟨a, h1, h2⟩ := h; exact ⟨a, h1, hq _ _ h2⟩
theorem Wk.eqc {c c' : Sr → R α} (h : Wk L m c' Q X) (e : c = c') : Wk L m c Q X := e ▸ h
end
section
variable {L : Ow} {m : Rs γ} {Q : γ → α → Prop} {X : XP} {η : Et} {f g h : DE} {t u : DT} {fa ga : DA}
theorem w_bin {o : D → D → Sr → R (D × Sr)} {Q : γ → D × Sr → Prop} (h : Wk L m (th (f η) fun a => th (g η) fun b => o a b) Q X) : Wk L m (dBin o f g η) Q X := h
theorem w_un {o : D → Sr → R (D × Sr)} {Q : γ → D × Sr → Prop} (h : Wk L m (th (f η) fun a => o a) Q X) : Wk L m (dUn o f η) Q X := h
theorem w_ap {o : List D → Sr → R (D × Sr)} {Q : γ → D × Sr → Prop} (h : Wk L m (th (fa η) fun ds => o ds) Q X) : Wk L m (dAp o fa η) Q X := h
theorem w_call {F : DF} {Q : γ → D × Sr → Prop} (h : Wk L m (th (fa η) fun ds => callF F ds η) Q X) : Wk L m (dCall F fa η) Q X := h
theorem w_nil {K : List D → Sr → R α} (h : Wk L m (K []) Q X) : Wk L m (th (dNil η) K) Q X := h
theorem w_cons {K : List D → Sr → R α} (h : Wk L m (th (f η) fun a => th (ga η) fun bs => K (a :: bs)) Q X) : Wk L m (th (dCons f ga η) K) Q X := by
  refine h.eqc (funext fun st => ?_)
  show ((dCons f ga η st).bind _) = _
  unfold dCons th
  cases f η st with
  | ok a => show (((ga η a.2).bind _).bind _) = ((ga η a.2).bind _); cases ga η a.2 <;> rfl
  | exc c fs e s => rfl
  | stuck => rfl
theorem w_tru {Q : γ → Bool × Sr → Prop} (h : Wk L m (th (f η) fun a => truO a) Q X) : Wk L m (dTru f η) Q X := h
theorem w_not {Q : γ → Bool × Sr → Prop} (h : Wk L m (th (t η) fun b st => .ok (!b, st)) Q X) : Wk L m (dNot t η) Q X := h
theorem w_and {m1 : Rs Bool} {k : Rs Bool} {L' : Bool → Ow} {Q : Bool → Bool × Sr → Prop} (h : Wk L m1 (t η) (PV id L') X) (hf : ∀ st, Own (L' false) st → Q false (false, st)) (hk : Wk (L' true) k (u η) Q X) : Wk L (m1.bind fun b => if b = true then k else .ok false) (dAnd t u η) Q X := by
  refine (wv (K := fun b st => if b = true then u η st else .ok (false, st)) h fun b => ?_ : Wk L _ (th (t η) _) Q X)
  cases b
  · exact fun st o => ⟨_, rfl, hf st o⟩
  · exact hk
theorem w_or {m1 : Rs Bool} {k : Rs Bool} {L' : Bool → Ow} {Q : Bool → Bool × Sr → Prop} (h : Wk L m1 (t η) (PV id L') X) (hf : ∀ st, Own (L' true) st → Q true (true, st)) (hk : Wk (L' false) k (u η) Q X) : Wk L (m1.bind fun b => if b = true then .ok true else k) (dOr t u η) Q X := by
  refine (wv (K := fun b st => if b = true then .ok (true, st) else u η st) h fun b => ?_ : Wk L _ (th (t η) _) Q X)
  cases b
  · exact hk
  · exact fun st o => ⟨_, rfl, hf st o⟩
theorem w_part {d : DE} {K : Option Int → Sr → R α} (h : Wk L m (th (d η) fun a st => match a with | .fz (.int i) => K (some i) st | _ => .stuck) Q X) : Wk L m (th (dPart d η) K) Q X := by
  refine h.eqc (funext fun st => ?_)
  unfold th dPart
  cases d η st with
  | ok a =>
    obtain ⟨a, s⟩ := a
    cases a with
    | cell n => rfl
    | fz p => cases p <;> rfl
  | exc c fs e s => rfl
  | stuck => rfl
theorem w_slF {l v : DO} {Q : γ → D × Sr → Prop} (h : Wk L m (th (f η) fun a => th (l η) fun lo => th (v η) fun hi => slF a lo hi) Q X) : Wk L m (dSlF f l v η) Q X := h
theorem w_orV {m1 : Rs Bool} {k : Rs Bool} {L' : Bool → Ow} {Q : Bool → D × Sr → Prop} (h : Wk L m1 (f η) (PV fe L') X) (hf : ∀ st, Own (L' true) st → Q true (fe true, st)) (hk : Wk (L' false) k (g η) Q X) : Wk L (m1.bind fun b => if b = true then .ok true else k) (dOrV f g η) Q X := by
  refine (wv (K := fun a st => match a with | .fz (.bl c) => if c = true then .ok (.fz (.bl true), st) else g η st | _ => .stuck) h fun b => ?_ : Wk L _ (th (f η) _) Q X)
  cases b
  · exact hk
  · exact fun st o => ⟨_, rfl, hf st o⟩
end
section
variable {L : Ow} {η : Et} {f g h : DE} {t u : DT} {fa ga : DA} {a b d e : D} {ds : List D} {p q : P}
theorem ev_var {i : Nat} (h : η[i]? = some (some d)) : Ev L (dVar i η) d := fun st _ => e_var h
theorem ev_k : Ev L (dK p η) (.fz p) := fun _ _ => rfl
theorem ev_bin {o : D → D → Sr → R (D × Sr)} (h1 : Ev L (f η) a) (h2 : Ev L (g η) b) (h3 : Ev L (o a b) d) : Ev L (dBin o f g η) d := fun st w => e_bin (h1 st w) (h2 st w) (h3 st w)
theorem ev_un {o : D → Sr → R (D × Sr)} (h1 : Ev L (f η) a) (h3 : Ev L (o a) d) : Ev L (dUn o f η) d := fun st w => e_un (h1 st w) (h3 st w)
theorem ev_ap {o : List D → Sr → R (D × Sr)} (h1 : Ev L (fa η) ds) (h3 : Ev L (o ds) d) : Ev L (dAp o fa η) d := fun st w => e_ap (h1 st w) (h3 st w)
theorem ev_nil : Ev L (dNil η) [] := fun _ _ => rfl
theorem ev_cons (h1 : Ev L (f η) a) (h2 : Ev L (ga η) ds) : Ev L (dCons f ga η) (a :: ds) := fun st w => e_cons (h1 st w) (h2 st w)
theorem ev_tru {x : Bool} (h1 : Ev L (f η) a) (h2 : Ev L (truO a) x) : Ev L (dTru f η) x := fun st w => e_tru (h1 st w) (h2 st w)
theorem ev_not {x : Bool} (h1 : Ev L (t η) x) : Ev L (dNot t η) (!x) := fun st w => e_not (h1 st w)
theorem ev_or {x y : Bool} (h1 : Ev L (t η) x) (h2 : Ev L (u η) y) : Ev L (dOr t u η) (x || y) := fun st w => by
  unfold dOr; rw [h1 st w, bind_ok]; cases x
  · exact h2 st w
  · rfl
theorem ev_andV {x y : Bool} (h1 : Ev L (f η) (fe x)) (h2 : Ev L (g η) (fe y)) : Ev L (dAndV f g η) (fe (x && y)) := fun st w => by
  unfold dAndV; rw [h1 st w, bind_ok]; cases x
  · rfl
  · exact h2 st w
theorem ev_notV {x : Bool} (h1 : Ev L (f η) (fe x)) : Ev L (dNotV f η) (fe !x) := fun st w => by
  unfold dNotV; rw [h1 st w, bind_ok]; rfl
theorem ev_nopart : Ev L (dNoPart η) none := fun _ _ => rfl
theorem ev_part {i : Int} (h1 : Ev L (f η) (fe i)) : Ev L (dPart f η) (some i) := fun st w => e_part (h1 st w)
theorem ev_slF {l v : DO} {lo hi : Option Int} (h1 : Ev L (f η) a) (h2 : Ev L (l η) lo) (h3 : Ev L (v η) hi) (h4 : Ev L (slF a lo hi) d) : Ev L (dSlF f l v η) d := fun st w => e_slF (h1 st w) (h2 st w) (h3 st w) (h4 st w)
end
/-- what a value reads as, frozen or a cell -/
def Pk (L : Ow) (d : D) (p : P) : Prop := ∀ st, Own L st → peek st d = some p
section
variable {L : Ow} {d e : D} {p q : P}
theorem pk_fz : Pk L (.fz p) p := fun _ _ => rfl
theorem pk_lst (k : Nat) {n : Nat} {xs : List P} (h : L[k]? = some (n, .lst xs) := by rfl) : Pk L (.cell n) (.lst xs) := fun st o => by unfold peek; dsimp only; rw [o.get k h]
end
@[irreducible] def idx (xs : List α) (i : Int) : Rs α := match L2.atI xs i with
  | some a => .ok a
  | none => .stuck
def cut (xs : List α) (lo hi : Option Int) : List α := (xs.drop (HT.sIx xs.length 0 lo)).take (HT.sIx xs.length xs.length hi - HT.sIx xs.length 0 lo)
@[irreducible] def app (xs : List α) (x : α) : Rs (List α) := if xs.length < 16777216 then .ok (xs ++ [x]) else .stuck
@[irreducible] def cat (xs ys : List α) : Rs (List α) := if xs.length + ys.length ≤ 16777216 then .ok (xs ++ ys) else .stuck
/-- a bound that the kernel looks at without unfolding a number -/
def smallI (b : Nat) (i : Int) : Bool := match i with
  | .ofNat n => Nat.ble n b
  | .negSucc n => Nat.ble n b
theorem small_iff {b : Nat} {i : Int} : smallI b i = true ↔ -((b : Int) + 1) ≤ i ∧ i ≤ b := by
  cases i with
  | ofNat n =>
    show Nat.ble n b = true ↔ _
    rw [Nat.ble_eq]; simp only [Int.ofNat_eq_natCast]; omega
  | negSucc n =>
    show Nat.ble n b = true ↔ _
    rw [Nat.ble_eq]; omega
@[irreducible] def mulM (i j : Int) : Rs Int := if (smallI 18446744073709551614 i || smallI 18446744073709551614 j) = true then .ok (i * j) else .stuck
@[irreducible] def modM (i j : Int) : Rs Int := if 0 < j then .ok (i % j) else .stuck
@[irreducible] def fdivM (i j : Int) : Rs Int := if 0 < j ∧ j < 1073741824 then .ok (i / j) else .stuck
def rng (lo : Int) (n : Nat) : List Int := (List.range n).map fun i : Nat => lo + (i : Int)
@[irreducible] def rng1 (j : Int) : Rs (List Int) := if smallI 1000000000 j = true then .ok (rng 0 j.toNat) else .stuck
theorem small62 {j : Int} (h : smallI 1000000000 j = true) : -(2 ^ 62 : Int) ≤ j ∧ j < 2 ^ 62 := by
  obtain ⟨h1, h2⟩ := small_iff.mp h
  exact ⟨Int.le_trans (b := -(((1000000000 : Nat) : Int) + 1)) (by decide +kernel) h1, Int.lt_of_le_of_lt (b := ((1000000000 : Nat) : Int)) h2 (by decide +kernel)⟩
theorem small64 {j : Int} (h : smallI 18446744073709551614 j = true) : -(2 ^ 64 : Int) < j ∧ j < 2 ^ 64 := by
  obtain ⟨h1, h2⟩ := small_iff.mp h
  exact ⟨Int.lt_of_lt_of_le (b := -(((18446744073709551614 : Nat) : Int) + 1)) (by decide +kernel) h1, Int.lt_of_le_of_lt (b := ((18446744073709551614 : Nat) : Int)) h2 (by decide +kernel)⟩
@[irreducible] def lrg (j : Int) : Rs (List Int) := if 0 ≤ j ∧ j ≤ 16777216 then .ok (rng 0 j.toNat) else .stuck
def enm (k : Int) : List α → List (T2 Int α)
  | [] => []
  | x :: xs => ⟨k, x⟩ :: enm (k + 1) xs
def unw (o : Option α) : Rs α := match o with
  | some a => .ok a
  | none => .stuck
def lenI (xs : List α) : Int := xs.length
@[irreducible] def eqM (p q : P) : Rs Bool := if shP p = true ∧ shP q = true then .ok (eqP p q) else .stuck
@[irreducible] def neM (p q : P) : Rs Bool := if shP p = true ∧ shP q = true then .ok (!eqP p q) else .stuck
def calm (m : Rs α) : Rs α := match m with
  | .exc _ _ => .stuck
  | r => r
section
variable {L : Ow} {X : XP} {d e : D} {p q : P} {i j : Int}
theorem rng_map (lo : Int) (n : Nat) : rangeP lo n = (rng lo n).map em := by
  unfold rangeP rng; rw [List.map_map]; rfl
theorem enm_map [Em α] : ∀ (xs : List α) (k : Nat), enumP k (xs.map em) = (enm (k : Int) xs).map em
  | [], k => rfl
  | x :: xs, k => by
    rw [List.map_cons]
    show _ :: enumP (k + 1) (xs.map em) = _ :: _
    rw [enm_map xs (k + 1)]; rfl
theorem cut_map [Em α] (xs : List α) (lo hi : Option Int) : cutP (xs.map em) lo hi = (cut xs lo hi).map em := by
  unfold cutP cut; rw [List.length_map, List.map_take, List.map_drop]
theorem atI_map {f : α → β} (xs : List α) (i : Int) : L2.atI (xs.map f) i = (L2.atI xs i).map f := by
  unfold L2.atI; rw [List.length_map]
  cases L2.ixN xs.length i with
  | none => rfl
  | some j => show (xs.map f)[j]? = (xs[j]?).map f; rw [List.getElem?_map]
theorem w_idx [Em α] {xs : List α} (h : Pk L d (em xs)) : Wk L (idx xs i) (ixO d (fe i)) (PV fe fun _ => L) X := fun st o => by
  unfold idx
  cases e : L2.atI xs i with
  | none => trivial
  | some a =>
    refine ⟨(fe a, st), ?_, rfl, o⟩
    unfold ixO
    rw [h st o]
    show (match L2.atI (xs.map em) i with | some q => R.ok (D.fz q, st) | none => .stuck) = _
    rw [atI_map, e]; rfl
theorem w_idxT [Em α] {xs : Tu α} (h : Pk L d (em xs)) : Wk L (idx xs.l i) (ixO d (fe i)) (PV fe fun _ => L) X := fun st o => by
  unfold idx
  cases e : L2.atI xs.l i with
  | none => trivial
  | some a =>
    refine ⟨(fe a, st), ?_, rfl, o⟩
    unfold ixO
    rw [h st o]
    show (match L2.atI (xs.l.map em) i with | some q => R.ok (D.fz q, st) | none => .stuck) = _
    rw [atI_map, e]; rfl
theorem ev_tix {ps : List P} (h : L2.atI ps i = some q := by rfl) : Ev L (ixO (.fz (.tup ps)) (fe i)) (.fz q) := fun st o => by
  show (match L2.atI ps i with | some q => R.ok (D.fz q, st) | none => .stuck) = _
  rw [h]
theorem ev_addI : Ev L (addF (fe i) (fe j)) (fe (i + j)) := fun _ _ => rfl
theorem ev_subI : Ev L (subO (fe i) (fe j)) (fe (i - j)) := fun _ _ => rfl
theorem ev_negI : Ev L (negO (fe i)) (fe (-i)) := fun _ _ => rfl
theorem ev_lt : Ev L (ltO (fe i) (fe j)) (fe (decide (i < j))) := fun _ _ => rfl
theorem ev_gt : Ev L (gtO (fe i) (fe j)) (fe (decide (j < i))) := fun _ _ => rfl
theorem ev_ge : Ev L (geO (fe i) (fe j)) (fe (decide (j ≤ i))) := fun _ _ => rfl
theorem ev_eq [Em α] [DecidableEq α] [EmE α] {a b : α} (h1 : Pk L d (em a)) (h2 : Pk L e (em b)) (h : EmE.dep α ≤ 64 := by decide) : Ev L (eqO d e) (fe (decide (a = b))) := fun st o => by
  unfold eqO
  rw [h1 st o, h2 st o]
  show (if shP (em a) = true ∧ shP (em b) = true then R.ok (D.fz (.bl (eqP (em a) (em b))), st) else .stuck) = _
  rw [if_pos ⟨shP_em a h, shP_em b h⟩, eqP_em]; rfl
theorem ev_ne [Em α] [DecidableEq α] [EmE α] {a b : α} (h1 : Pk L d (em a)) (h2 : Pk L e (em b)) (h : EmE.dep α ≤ 64 := by decide) : Ev L (neO d e) (fe (!decide (a = b))) := fun st o => by
  unfold neO
  rw [h1 st o, h2 st o]
  show (if shP (em a) = true ∧ shP (em b) = true then R.ok (D.fz (.bl (!eqP (em a) (em b))), st) else .stuck) = _
  rw [if_pos ⟨shP_em a h, shP_em b h⟩, eqP_em]; rfl
theorem w_eqM (h1 : Pk L d p) (h2 : Pk L e q) : Wk L (eqM p q) (eqO d e) (PV fe fun _ => L) X := fun st o => by
  unfold eqM eqO
  rw [h1 st o, h2 st o]
  by_cases h : shP p = true ∧ shP q = true
  · rw [if_pos h]; exact ⟨_, if_pos h, rfl, o⟩
  · rw [if_neg h]; trivial
theorem w_neM (h1 : Pk L d p) (h2 : Pk L e q) : Wk L (neM p q) (neO d e) (PV fe fun _ => L) X := fun st o => by
  unfold neM neO
  rw [h1 st o, h2 st o]
  by_cases h : shP p = true ∧ shP q = true
  · rw [if_pos h]; exact ⟨_, if_pos h, rfl, o⟩
  · rw [if_neg h]; trivial
theorem ev_len [Em α] {xs : List α} (h : Pk L d (em xs)) : Ev L (lenO [d]) (fe (lenI xs)) := fun st o => by
  unfold lenO; dsimp only; rw [h st o]
  show R.ok (D.fz (.int (((xs.map em).length : Nat) : Int)), st) = _
  rw [List.length_map]; rfl
theorem ev_lenT [Em α] {xs : Tu α} (h : Pk L d (em xs)) : Ev L (lenO [d]) (fe (lenI xs.l)) := fun st o => by
  unfold lenO; dsimp only; rw [h st o]
  show R.ok (D.fz (.int (((xs.l.map em).length : Nat) : Int)), st) = _
  rw [List.length_map]; rfl
theorem ev_truB {b : Bool} : Ev L (truO (fe b)) b := fun _ _ => rfl
theorem ev_truT [Em α] {xs : Tu α} (h : Pk L d (em xs)) : Ev L (truO d) (!xs.l.isEmpty) := fun st o => by
  unfold truO; rw [h st o]
  show R.ok (!(xs.l.map em).isEmpty, st) = _
  cases xs.l <;> rfl
theorem ev_slL [Em α] {xs : List α} {lo hi : Option Int} (h : Pk L d (em xs)) : Ev L (slF d lo hi) (fe (cut xs lo hi)) := fun st o => by
  unfold slF; rw [h st o]
  show R.ok (D.fz (.lst (cutP (xs.map em) lo hi)), st) = _
  rw [cut_map]; rfl
theorem ev_listL [Em α] {xs : List α} (h : Pk L d (em xs)) : Ev L (listF [d]) (fe xs) := fun st o => by
  unfold listF; dsimp only; rw [h st o]; rfl
theorem ev_listT [Em α] {xs : Tu α} (h : Pk L d (em xs)) : Ev L (listF [d]) (fe xs.l) := fun st o => by
  unfold listF; dsimp only; rw [h st o]; rfl
theorem ev_tupleL [Em α] {xs : List α} (h : Pk L d (em xs)) : Ev L (tupleO [d]) (fe (Tu.mk xs)) := fun st o => by
  unfold tupleO; dsimp only; rw [h st o]; rfl
theorem intsP_map : ∀ xs : List Int, intsP (xs.map em) = some xs
  | [] => rfl
  | x :: xs => by
    show (match intsP (xs.map em) with | some is => some (x :: is) | none => none) = _
    rw [intsP_map xs]
theorem ev_int1 : Ev L (int1O [fe i]) (fe i) := fun _ _ => rfl
theorem toPs_fz (st : Sr) : ∀ ps : List P, toPs st (ps.map D.fz) = some (ps, st)
  | [] => rfl
  | p :: ps => by rw [List.map_cons]; unfold toPs; dsimp only [toP]; rw [toPs_fz st ps]
theorem ev_tup (ps : List P) (hd : d = .fz (.tup ps) := by rfl) {ds : List D} (h : ds = ps.map D.fz := by rfl) (hl : ps.length ≤ 16777216 := by exact Nat.le_of_ble_eq_true rfl) : Ev L (tupO ds) d := fun st o => by
  subst hd; subst h; unfold tupO; rw [toPs_fz]; exact if_pos hl
theorem ev_lst (ps : List P) (hd : d = .fz (.lst ps) := by rfl) {ds : List D} (h : ds = ps.map D.fz := by rfl) (hl : ps.length ≤ 16777216 := by exact Nat.le_of_ble_eq_true rfl) : Ev L (lstF ds) d := fun st o => by
  subst hd; subst h; unfold lstF; rw [toPs_fz]; exact if_pos hl
theorem w_cat [Em α] {xs ys : List α} (h1 : Pk L d (em xs)) (h2 : Pk L e (em ys)) : Wk L (cat xs ys) (addF d e) (PV fe fun _ => L) X := fun st o => by
  unfold cat addF
  rw [h1 st o, h2 st o]
  by_cases h : xs.length + ys.length ≤ 16777216
  · rw [if_pos h]
    refine ⟨(fe (xs ++ ys), st), ?_, rfl, o⟩
    show (if (xs.map em).length + (ys.map em).length ≤ szL then R.ok (D.fz (.lst (xs.map em ++ ys.map em)), st) else .stuck) = _
    rw [List.length_map, List.length_map, if_pos h, ← List.map_append]; rfl
  · rw [if_neg h]; trivial
theorem w_guard [Em α] {p : Prop} [Decidable p] {t : α} {c : Sr → R (D × Sr)} (h : p → ∀ st, Own L st → c st = .ok (fe t, st)) : Wk L (if p then Rs.ok t else .stuck) c (PV fe fun _ => L) X := fun st o => by
  by_cases hp : p
  · rw [if_pos hp]; exact ⟨_, h hp st o, rfl, o⟩
  · rw [if_neg hp]; trivial
theorem w_mul : Wk L (mulM i j) (mulO (fe i) (fe j)) (PV fe fun _ => L) X := by
  unfold mulM
  refine w_guard fun h st o => if_pos ?_
  rcases (Bool.or_eq_true _ _).mp h with h | h
  · exact .inl (small64 h)
  · exact .inr (small64 h)
theorem w_mod : Wk L (modM i j) (modO (fe i) (fe j)) (PV fe fun _ => L) X := by
  unfold modM
  exact w_guard fun h st o => modO_ok h
theorem w_fdiv : Wk L (fdivM i j) (fdivO (fe i) (fe j)) (PV fe fun _ => L) X := by
  unfold fdivM
  exact w_guard fun h st o => fdivO_ok h
theorem w_lrg : Wk L (lrg i) (rgF (fe i)) (PV fe fun _ => L) X := by
  unfold lrg
  refine w_guard fun h st o => ?_
  show (if 0 ≤ i ∧ i ≤ 16777216 then R.ok (D.fz (.lst (rangeP 0 i.toNat)), st) else .stuck) = _
  rw [if_pos h, rng_map]; rfl
end
end N
end
section
set_option Elab.async false
set_option linter.all false
set_option maxRecDepth 100000
set_option maxHeartbeats 0
namespace N
open PySem L2 M
variable {α β γ δ σ ρ τ κ J : Type}
def Src (L : Ow) (d : D) (ps : List P) (L' : Ow) : Prop := ∀ st, Own L st → ∃ p st', toP st d = some (p, st') ∧ itemsP p = some ps ∧ Own L' st'
def Fz (L : Ow) (d : D) (p : P) (L' : Ow) : Prop := ∀ st, Own L st → ∃ st', toP st d = some (p, st') ∧ Own L' st'
section
variable {L L' : Ow} {d : D} {p : P}
theorem fz_fz : Fz L (.fz p) p L := fun st o => ⟨st, rfl, o⟩
theorem fz_c (k : Nat) {n : Nat} {xs : List P} (h : L[k]? = some (n, .lst xs) := by rfl) : Fz L (.cell n) (.lst xs) (L.set k (n, .frz (.lst xs))) := fun st o => ⟨st.set n (.frz (.lst xs)), by unfold toP; dsimp only; rw [o.get k h], o.set h _⟩
theorem src_l [Em α] {xs : List α} (h : Fz L d (em xs) L') : Src L d (xs.map em) L' := fun st o => let ⟨st', h1, h2⟩ := h st o; ⟨_, st', h1, rfl, h2⟩
theorem src_t [Em α] {xs : Tu α} (h : Fz L d (em xs) L') : Src L d (xs.l.map em) L' := fun st o => let ⟨st', h1, h2⟩ := h st o; ⟨_, st', h1, rfl, h2⟩
end
section
variable {L L1 : Ow} {m : Rs γ} {mv : Rs δ} {k : δ → Rs γ} {Q : γ → Fl × Et × Sr → Prop} {X : XP} {η : Et} {f : DE} {t : DT} {x y z : DS} {fa : DA} {i : Nat}
theorem seq_assoc : dSeq (dSeq x y) z = dSeq x (dSeq y z) := by
  funext η st
  unfold dSeq
  cases x η st with
  | ok r =>
    obtain ⟨fl, e, s⟩ := r
    cases fl <;> rfl
  | exc c fs e s => rfl
  | stuck => rfl
theorem seq_skip : dSeq x dSkip = x := by
  funext η st
  unfold dSeq dSkip
  cases x η st with
  | ok r => obtain ⟨fl, e, s⟩ := r; cases fl <;> rfl
  | exc c fs e s => rfl
  | stuck => rfl
theorem ws_assoc (h : Wk L m (dSeq x (dSeq y z) η) Q X) : Wk L m (dSeq (dSeq x y) z η) Q X := by rw [seq_assoc]; exact h
theorem ws_last (h : Wk L m (dSeq x dSkip η) Q X) : Wk L m (x η) Q X := by rw [seq_skip] at h; exact h
theorem ws_skip (h : Wk L m (y η) Q X) : Wk L m (dSeq dSkip y η) Q X := h
theorem ws_end {g : γ} (h : ∀ st, Own L st → Q g (.nx, η, st)) : Wk L (.ok g) (dSkip η) Q X := fun st o => ⟨_, rfl, h st o⟩
theorem w_th {c : Sr → R (β × Sr)} {K : β → Sr → R α} {Q : γ → α → Prop} {e : Sr → R α} (h : Wk L m (th c K) Q X) (he : e = th c K) : Wk L m e Q X := he ▸ h
theorem ws_set {rep : δ → D} {L' : δ → Ow} (V : Wk L mv (f η) (PV rep L') X) (hk : ∀ g, Wk (L' g) (k g) (y (η.set i (some (rep g)))) Q X) : Wk L (mv.bind k) (dSeq (dAsg f (gNm i)) y η) Q X := by
  refine w_th (wv (K := fun d st => y (η.set i (some d)) st) V hk) (funext fun st => ?_)
  unfold dSeq dAsg th
  cases f η st <;> rfl
theorem ws_setN {ct : δ → Ct} {L' : δ → Ow} (V : Wk L mv (f η) (PC ct L') X) (hk : ∀ g n, Wk (L' g ++ [(n, .c (ct g))]) (k g) (y (η.set i (some (.cell n)))) Q X) : Wk L (mv.bind k) (dSeq (dAsg f (gNm i)) y η) Q X := fun st o => by
  have h := V st o
  cases mv with
  | stuck => trivial
  | exc cl fs =>
    obtain ⟨e, st', h1, h2⟩ := h
    exact ⟨e, st', by unfold dSeq dAsg; rw [h1]; rfl, h2⟩
  | ok g =>
    obtain ⟨⟨b, st'⟩, h1, n, h2, h3⟩ := h
    cases h2
    have e : dSeq (dAsg f (gNm i)) y η st = y (η.set i (some (.cell n))) st' := by unfold dSeq dAsg; rw [h1]; rfl
    have := hk g n st' h3
    rw [← e] at this
    exact this
theorem ws_ex {rep : δ → D} {L' : δ → Ow} (V : Wk L mv (f η) (PV rep L') X) (hk : ∀ g, Wk (L' g) (k g) (y η) Q X) : Wk L (mv.bind k) (dSeq (dEx f) y η) Q X := by
  refine w_th (wv (K := fun d st => y η st) V hk) (funext fun st => ?_)
  unfold dSeq dEx th
  cases f η st <;> rfl
theorem ws_ret {mv : Rs γ} {rep : γ → D} {L' : γ → Ow} (V : Wk L mv (f η) (PV rep L') X) (hq : ∀ g st, Own (L' g) st → Q g (.rt (rep g), η, st)) : Wk L mv (dSeq (dRet f) y η) Q X := fun st o => by
  have h := V st o
  cases mv with
  | stuck => trivial
  | exc cl fs =>
    obtain ⟨e, st', h1, h2⟩ := h
    exact ⟨e, st', by unfold dSeq dRet; rw [h1]; rfl, h2⟩
  | ok g =>
    obtain ⟨⟨b, st'⟩, h1, h2, h3⟩ := h
    cases h2
    exact ⟨(.rt (rep g), η, st'), by unfold dSeq dRet; rw [h1]; rfl, hq g st' h3⟩
theorem ws_retK {kr : δ → γ} {rep : δ → D} {L' : δ → Ow} (V : Wk L mv (f η) (PV rep L') X) (hq : ∀ g st, Own (L' g) st → Q (kr g) (.rt (rep g), η, st)) : Wk L (mv.bind fun g => .ok (kr g)) (dSeq (dRet f) y η) Q X := by
  have h := ws_ret (Q := fun g r => Q (kr g) r) (y := y) V hq
  intro st o
  have h := h st o
  cases mv <;> exact h
theorem ws_ifP {b : Bool} {ma mz : Rs γ} (V : Ev L (t η) b) (ha : b = true → Wk L ma (dSeq x y η) Q X) (hz : b = false → Wk L mz (dSeq z y η) Q X) : Wk L (if b = true then ma else mz) (dSeq (dIf t x z) y η) Q X := fun st o => by
  have e := V st o
  have e2 : dSeq (dIf t x z) y η st = (if b = true then dSeq x y η st else dSeq z y η st) := by
    unfold dSeq dIf
    rw [e, bind_ok]
    cases b <;> rfl
  rw [e2]
  cases b
  · exact hz rfl st o
  · exact ha rfl st o
theorem ws_raiseT {c : Str} (hx : ∀ st, Own L st → X η st) : Wk L (.exc c none) (dSeq (dRaiseT c) y η) Q X := fun st o => ⟨η, st, rfl, hx st o⟩
/-- a, b, .. = f -/
theorem ws_unp {rep : δ → D} {L' : δ → Ow} {gs : List DG} {ps : δ → List P} {η' : δ → Et} (V : Wk L mv (f η) (PV rep L') X) (hp : ∀ g, Pk (L' g) (rep g) (.tup (ps g))) (hb : ∀ g st, bindAll gs (ps g) η st = some (η' g)) (hk : ∀ g, Wk (L' g) (k g) (y (η' g)) Q X) : Wk L (mv.bind k) (dSeq (dAsg f (gTp gs)) y η) Q X := fun st o => by
  have h := V st o
  cases mv with
  | stuck => trivial
  | exc cl fs =>
    obtain ⟨e, st', h1, h2⟩ := h
    exact ⟨e, st', by unfold dSeq dAsg; rw [h1]; rfl, h2⟩
  | ok g =>
    obtain ⟨⟨b, st'⟩, h1, h2, h3⟩ := h
    cases h2
    have e : dSeq (dAsg f (gTp gs)) y η st = y (η' g) st' := by
      unfold dSeq dAsg; rw [h1, bind_ok]
      show ((match gTp gs (rep g) η st' with | some η1 => R.ok (Fl.nx, η1, st') | none => .stuck).bind _) = _
      have : gTp gs (rep g) η st' = some (η' g) := by unfold gTp; rw [hp g st' h3]; exact hb g st'
      rw [this]; rfl
    have := hk g st' h3
    rw [← e] at this
    exact this
theorem ws_append [Em β] {n kp : Nat} {L' L2 : δ → Ow} {rep : δ → D} {v : δ → β} {ys : δ → List β} {kk : δ → List β → Rs γ} {x0 : List P} (V : Wk L mv (f η) (PV rep L') X) (hv : η[i]? = some (some (.cell n))) (h0 : L[kp]? = some (n, .lst x0))
    (hz : ∀ g, Fz (L' g) (rep g) (em (v g)) (L2 g)) (h1 : ∀ g, (L2 g)[kp]? = some (n, .lst ((ys g).map em))) (hk : ∀ g zs, Wk ((L2 g).set kp (n, .lst (zs.map em))) (kk g zs) (y η) Q X) :
    Wk L (mv.bind fun g => (app (ys g) (v g)).bind (kk g)) (dSeq (dEx (dBM isLst appendO (dVar i) (dCons f dNil))) y η) Q X := fun st o => by
  have h := V st o
  have hi : isLst st (.cell n) = true := isLst_at (o.get kp h0)
  have e0 : ∀ r, f η st = r → dSeq (dEx (dBM isLst appendO (dVar i) (dCons f dNil))) y η st = (r.bind fun a => (appendO (.cell n) [a.1] a.2).bind fun b => y η b.2) := fun r hr => by
    unfold dSeq dEx dBM
    rw [e_var hv, bind_ok]
    dsimp only
    rw [if_pos hi]
    unfold dCons dNil
    rw [hr]
    cases r with
    | ok a => dsimp only [bind_ok]; cases appendO (.cell n) [a.1] a.2 <;> rfl
    | exc c fs e s => rfl
    | stuck => rfl
  cases mv with
  | stuck => trivial
  | exc cl fs =>
    obtain ⟨e, st', h1, h2⟩ := h
    exact ⟨e, st', (e0 _ h1), h2⟩
  | ok g =>
    obtain ⟨⟨b, st'⟩, e1, e2, e3⟩ := h
    cases e2
    show (match (app (ys g) (v g)).bind (kk g) with | .ok g => _ | .exc cl fs => _ | .stuck => True)
    unfold app
    by_cases hl : (ys g).length < 16777216
    · rw [if_pos hl, ok_bind]
      obtain ⟨st2, e4, e5⟩ := hz g st' e3
      have e6 : appendO (.cell n) [rep g] st' = .ok (.fz .non, st2.set n (.lst ((ys g ++ [v g]).map em))) := by
        unfold appendO; dsimp only; rw [e4]; dsimp only; rw [e5.get kp (h1 g)]; dsimp only
        rw [if_pos (by rw [List.length_map]; exact hl), List.map_append]; rfl
      have e7 := hk g (ys g ++ [v g]) _ (e5.set (h1 g) (.lst ((ys g ++ [v g]).map em)))
      have e8 := e0 _ e1
      rw [bind_ok] at e8
      dsimp only at e8
      rw [e6, bind_ok] at e8
      rw [← e8] at e7
      exact e7
    · rw [if_neg hl]; trivial
end
/-- behind statements that end normally -/
def QN (E : γ → J → Et) (Lf : γ → J → Ow) : γ → (Fl × Et × Sr) → Prop := fun g r => r.1 = .nx ∧ ∃ j, r.2.1 = E g j ∧ Own (Lf g j) r.2.2
def QB (E : γ → J → Et) (Lf : γ → J → Ow) : γ → (Fl × Et × Sr) → Prop := fun g r => (r.1 = .nx ∨ r.1 = .ct) ∧ ∃ j, r.2.1 = E g j ∧ Own (Lf g j) r.2.2
inductive LC (σ ρ : Type) where
  | nx (s : σ) | bk (s : σ) | rt (r : ρ)
def QC (E : σ → J → Et) (Lf : σ → J → Ow) (Qr : ρ → (Fl × Et × Sr) → Prop) : LC σ ρ → (Fl × Et × Sr) → Prop := fun o r => match o with
  | .nx g => (r.1 = .nx ∨ r.1 = .ct) ∧ ∃ j, r.2.1 = E g j ∧ Own (Lf g j) r.2.2
  | .bk g => r.1 = .bk ∧ ∃ j, r.2.1 = E g j ∧ Own (Lf g j) r.2.2
  | .rt v => Qr v r ∧ ∃ d, r.1 = .rt d
def QL (E : σ → J → Et) (Lf : σ → J → Ow) (Qr : ρ → (Fl × Et × Sr) → Prop) : σ ⊕ ρ → (Fl × Et × Sr) → Prop := fun o r => match o with
  | .inl g => r.1 = .nx ∧ ∃ j, r.2.1 = E g j ∧ Own (Lf g j) r.2.2
  | .inr v => Qr v r ∧ ∃ d, r.1 = .rt d
def foldRs (f : σ → α → Rs σ) : List α → σ → Rs σ
  | [], s => .ok s
  | x :: xs, s => (f s x).bind (foldRs f xs)
def loopRs (f : σ → α → Rs (LC σ ρ)) : List α → σ → Rs (σ ⊕ ρ)
  | [], s => .ok (.inl s)
  | x :: xs, s => (f s x).bind fun r => match r with
    | .nx s' => loopRs f xs s'
    | .bk s' => .ok (.inl s')
    | .rt v => .ok (.inr v)
def Rs.bindL (m : Rs (σ ⊕ ρ)) (k : σ → Rs γ) (kr : ρ → γ) : Rs γ := m.bind fun o => match o with
  | .inl s => k s
  | .inr r => .ok (kr r)
@[simp] theorem bindL_inl (s : σ) (k : σ → Rs γ) (kr : ρ → γ) : (Rs.ok (.inl s)).bindL k kr = k s := rfl
@[simp] theorem bindL_inr (r : ρ) (k : σ → Rs γ) (kr : ρ → γ) : (Rs.ok (.inr r)).bindL k kr = .ok (kr r) := rfl
section
variable {L : Ow} {X : XP} {η : Et} {b x y : DS} {gs : DG} {Q : γ → Fl × Et × Sr → Prop} {mi : Rs σ} {k : σ → Rs γ} {E : σ → J → Et} {Lf : σ → J → Ow}
theorem ws_cut (h1 : Wk L mi (x η) (QN E Lf) X) (h2 : ∀ s j, Wk (Lf s j) (k s) (y (E s j)) Q X) : Wk L (mi.bind k) (dSeq x y η) Q X := fun st o => by
  have h := h1 st o
  cases mi with
  | stuck => trivial
  | exc cl fs =>
    obtain ⟨e, st', h1, h2⟩ := h
    exact ⟨e, st', by unfold dSeq; rw [h1]; rfl, h2⟩
  | ok g =>
    obtain ⟨⟨fl, e, st'⟩, h1, h2', j, h3, h4⟩ := h
    cases h2'; cases h3
    have e : dSeq x y η st = y (E g j) st' := by unfold dSeq; rw [h1]; rfl
    have := h2 g j st' h4
    rw [← e] at this
    exact this
theorem ws_cutL {mi : Rs (σ ⊕ ρ)} {Qr : ρ → Fl × Et × Sr → Prop} {kr : ρ → γ} (h1 : Wk L mi (x η) (QL E Lf Qr) X) (h2 : ∀ s j, Wk (Lf s j) (k s) (y (E s j)) Q X) (h3 : ∀ v r, Qr v r → (∃ d, r.1 = .rt d) → Q (kr v) r) : Wk L (mi.bindL k kr) (dSeq x y η) Q X := fun st o => by
  have h := h1 st o
  cases mi with
  | stuck => trivial
  | exc cl fs =>
    obtain ⟨e, st', h1, h2⟩ := h
    exact ⟨e, st', by unfold dSeq; rw [h1]; rfl, h2⟩
  | ok g =>
    cases g with
    | inl g =>
      obtain ⟨⟨fl, e, st'⟩, h1, h2', j, h3, h4⟩ := h
      cases h2'; cases h3
      have e : dSeq x y η st = y (E g j) st' := by unfold dSeq; rw [h1]; rfl
      have := h2 g j st' h4
      rw [← e] at this
      exact this
    | inr v =>
      obtain ⟨⟨fl, e, st'⟩, h1, h2', d, hd⟩ := h
      have hd' : fl = .rt d := hd
      subst hd'
      exact ⟨(.rt d, e, st'), by unfold dSeq; rw [h1]; rfl, h3 v _ h2' ⟨d, rfl⟩⟩
theorem loopD_at {p : P} {xs : List P} {η1 : Et} {st : Sr} (hg : gs (.fz p) η st = some η1) : loopD gs b (p :: xs) η st = (b η1 st).bind fun r => match r.1 with
      | .nx => loopD gs b xs r.2.1 r.2.2
      | .ct => loopD gs b xs r.2.1 r.2.2
      | .bk => .ok (.nx, r.2.1, r.2.2)
      | .rt d => .ok (.rt d, r.2.1, r.2.2) := by
  conv => lhs; unfold loopD
  rw [hg]
  all_goals rfl
theorem loop_fold {h : α → P} {nb : σ → α → Rs σ} {η1 : σ → J → α → Et} (hg : ∀ s j x st, gs (.fz (h x)) (E s j) st = some (η1 s j x)) (hb : ∀ s j x, Wk (Lf s j) (nb s x) (b (η1 s j x)) (QB E Lf) X) :
    ∀ (xs : List α) (s : σ) (j : J), Wk (Lf s j) (foldRs nb xs s) (loopD gs b (xs.map h) (E s j)) (QN E Lf) X
  | [], s, j => fun st o => ⟨_, rfl, rfl, j, rfl, o⟩
  | x :: xs, s, j => fun st o => by
    have h1 := hb s j x st o
    have e0 : ∀ r, b (η1 s j x) st = r → loopD gs b ((x :: xs).map h) (E s j) st = r.bind fun r => match r.1 with
      | .nx => loopD gs b (xs.map h) r.2.1 r.2.2
      | .ct => loopD gs b (xs.map h) r.2.1 r.2.2
      | .bk => .ok (.nx, r.2.1, r.2.2)
      | .rt d => .ok (.rt d, r.2.1, r.2.2) := fun r hr => by
      rw [List.map_cons, loopD_at (hg s j x st), hr]
    unfold foldRs
    cases hm : nb s x with
    | stuck => trivial
    | exc cl fs =>
      rw [hm] at h1
      obtain ⟨e, st', h2, h3⟩ := h1
      exact ⟨e, st', e0 _ h2, h3⟩
    | ok s' =>
      rw [hm] at h1
      obtain ⟨⟨fl, e, st'⟩, h2, h3, j', h4, h5⟩ := h1
      cases h4
      have h6 := loop_fold hg hb xs s' j' st' h5
      have e1 : loopD gs b ((x :: xs).map h) (E s j) st = loopD gs b (xs.map h) (E s' j') st' := by
        rw [e0 _ h2, bind_ok]
        rcases h3 with h3 | h3 <;> (have h3' : fl = _ := h3; subst h3'; rfl)
      rw [← e1] at h6
      exact h6
theorem loop_lc {h : α → P} {nb : σ → α → Rs (LC σ ρ)} {Qr : ρ → Fl × Et × Sr → Prop} {η1 : σ → J → α → Et} (hg : ∀ s j x st, gs (.fz (h x)) (E s j) st = some (η1 s j x)) (hb : ∀ s j x, Wk (Lf s j) (nb s x) (b (η1 s j x)) (QC E Lf Qr) X) :
    ∀ (xs : List α) (s : σ) (j : J), Wk (Lf s j) (loopRs nb xs s) (loopD gs b (xs.map h) (E s j)) (QL E Lf Qr) X
  | [], s, j => fun st o => ⟨_, rfl, rfl, j, rfl, o⟩
  | x :: xs, s, j => fun st o => by
    have h1 := hb s j x st o
    have e0 : ∀ r, b (η1 s j x) st = r → loopD gs b ((x :: xs).map h) (E s j) st = r.bind fun r => match r.1 with
      | .nx => loopD gs b (xs.map h) r.2.1 r.2.2
      | .ct => loopD gs b (xs.map h) r.2.1 r.2.2
      | .bk => .ok (.nx, r.2.1, r.2.2)
      | .rt d => .ok (.rt d, r.2.1, r.2.2) := fun r hr => by
      rw [List.map_cons, loopD_at (hg s j x st), hr]
    unfold loopRs
    cases hm : nb s x with
    | stuck => trivial
    | exc cl fs =>
      rw [hm] at h1
      obtain ⟨e, st', h2, h3⟩ := h1
      exact ⟨e, st', e0 _ h2, h3⟩
    | ok o =>
      rw [hm] at h1
      cases o with
      | nx s' =>
        obtain ⟨⟨fl, e, st'⟩, h2, h3, j', h4, h5⟩ := h1
        cases h4
        have h6 := loop_lc hg hb xs s' j' st' h5
        have e1 : loopD gs b ((x :: xs).map h) (E s j) st = loopD gs b (xs.map h) (E s' j') st' := by
          rw [e0 _ h2, bind_ok]
          rcases h3 with h3 | h3 <;> (have h3' : fl = _ := h3; subst h3'; rfl)
        rw [← e1] at h6
        exact h6
      | bk s' =>
        obtain ⟨⟨fl, e, st'⟩, h2, h3, j', h4, h5⟩ := h1
        have h3' : fl = .bk := h3
        subst h3'
        exact ⟨_, e0 _ h2, rfl, j', h4, h5⟩
      | rt v =>
        obtain ⟨⟨fl, e, st'⟩, h2, h3, d, h4⟩ := h1
        have h4' : fl = .rt d := h4
        subst h4'
        exact ⟨_, e0 _ h2, h3, d, rfl⟩
end
section
variable {L : Ow} {X : XP} {η : Et} {b : DS} {gs : DG} {f : DE} {fa : DA} {Q : γ → Fl × Et × Sr → Prop} {mv : Rs δ} {mb : δ → Rs γ} {m : Rs γ}
theorem w_for {h : α → P} {rep : δ → D} {L1 L2 : δ → Ow} {it : δ → List α} (V : Wk L mv (f η) (PV rep L1) X) (S : ∀ g, Src (L1 g) (rep g) ((it g).map h) (L2 g)) (B : ∀ g, Wk (L2 g) (mb g) (loopD gs b ((it g).map h) η) Q X) : Wk L (mv.bind mb) (dForL f gs b η) Q X := by
  refine w_th (wv (K := fun d st => match toP st d with
    | some (p, st') => match itemsP p with
      | some xs => loopD gs b xs η st'
      | none => .stuck
    | none => .stuck) V fun g => ?_) rfl
  intro st o
  obtain ⟨p, st', h1, h2, h3⟩ := S g st o
  dsimp only
  rw [h1]; dsimp only; rw [h2]
  exact B g st' h3
theorem w_forP {h : α → P} {L2 : Ow} {d : D} {it : List α} (V : Ev L (f η) d) (S : Src L d (it.map h) L2) (B : Wk L2 m (loopD gs b (it.map h) η) Q X) : Wk L m (dForL f gs b η) Q X := by
  have := w_for (mv := Rs.ok ()) (rep := fun _ => d) (mb := fun _ => m) (it := fun _ => it) (w_ev V) (fun _ => S) (fun _ => B)
  exact this
theorem w_forR1 {L1 : δ → Ow} {j : δ → Int} {mb : δ → List Int → Rs γ} (V : Wk L mv (fa η) (PV (fun g => [fe (j g)]) L1) X) (B : ∀ g xs, Wk (L1 g) (mb g xs) (loopD gs b (xs.map em) η) Q X) : Wk L (mv.bind fun g => (rng1 (j g)).bind (mb g)) (dForR1 fa gs b η) Q X := by
  refine w_th (wv (K := fun ds st => match ds with
    | [.fz (.int j)] => if -(2 ^ 62) ≤ j ∧ j < 2 ^ 62 then loopD gs b (rangeP 0 j.toNat) η st else .stuck
    | _ => .stuck) V fun g => ?_) rfl
  unfold rng1
  by_cases hb : smallI 1000000000 (j g) = true
  · rw [if_pos hb, ok_bind]
    refine (B g (rng 0 (j g).toNat)).eqc (funext fun st => ?_)
    rw [← rng_map]
    exact if_pos (small62 hb)
  · rw [if_neg hb]; exact w_stuck
end
abbrev XT : XP := fun _ _ => True
def lcN (t : α → Rs Bool) (f : α → Rs β) : List α → List β → Rs (List β)
  | [], acc => .ok acc
  | x :: xs, acc => (t x).bind fun b => if b = true then (f x).bind fun y => if acc.length < 16777216 then lcN t f xs (acc ++ [y]) else .stuck else lcN t f xs acc
def yes (_ : α) : Rs Bool := .ok true
section
variable {L : Ow} {X : XP} {η : Et} {t : DT} {f fs : DE} {fa : DA} {i : Nat}
theorem yes_ok {x : α} {h : α → P} : Wk L (yes x) (dYes (η.set i (some (.fz (h x))))) (PV id fun _ => L) XT := fun st o => ⟨(true, st), rfl, rfl, o⟩
theorem lc_walk [Em β] {h : α → P} {mt : α → Rs Bool} {mf : α → Rs β} (ht : ∀ x, Wk L (mt x) (t (η.set i (some (.fz (h x))))) (PV id fun _ => L) XT) (hf : ∀ x, Wk L (mf x) (f (η.set i (some (.fz (h x))))) (PV fe fun _ => L) XT) :
    ∀ (xs : List α) (acc : List β), Wk L (lcN mt mf xs acc) (lcD i t f η (xs.map h) (acc.map em)) (fun ys a => a.1 = ys.map em ∧ Own L a.2) XT
  | [], acc => fun st o => ⟨_, rfl, rfl, o⟩
  | x :: xs, acc => by
    refine w_th (wv (K := fun b st => if b = true then (f (η.set i (some (.fz (h x)))) st).bind fun b => match toP b.2 b.1 with
      | some (p, st2) => if (acc.map em).length < szL then lcD i t f η (xs.map h) (acc.map em ++ [p]) st2 else .stuck
      | none => .stuck
    else lcD i t f η (xs.map h) (acc.map em) st) (ht x) fun b => ?_) rfl
    cases b
    · exact lc_walk ht hf xs acc
    · show Wk L ((mf x).bind _) _ _ _
      refine w_th (wv (K := fun d st => match toP st d with
        | some (p, st2) => if (acc.map em).length < szL then lcD i t f η (xs.map h) (acc.map em ++ [p]) st2 else .stuck
        | none => .stuck) (hf x) fun y => ?_) rfl
      by_cases hl : acc.length < 16777216
      · rw [if_pos hl]
        refine (lc_walk ht hf xs (acc ++ [y])).eqc (funext fun st => ?_)
        rw [List.map_append]
        exact if_pos (by rw [List.length_map]; exact hl)
      · rw [if_neg hl]; exact w_stuck
theorem lcZ_walk [Em β] {h : α → P} {mt : α → Rs Bool} {mf : α → Rs β} (ht : ∀ x, Wk L (mt x) (t (η.set i (some (.fz (h x))))) (PV id fun _ => L) XT) (hf : ∀ x, Wk L (mf x) (f (η.set i (some (.fz (h x))))) (PV fe fun _ => L) XT) (xs : List α) :
    Wk L (calm (lcN mt mf xs [])) (fun st => lcZ (lcD i t f η (xs.map h) [] st)) (PV fe fun _ => L) X := fun st o => by
  have h1 := lc_walk ht hf xs [] st o
  cases e : lcN mt mf xs [] with
  | stuck => trivial
  | exc c fs => trivial
  | ok ys =>
    rw [e] at h1
    obtain ⟨⟨zs, st'⟩, h2, h3, h4⟩ := h1
    have h3' : zs = ys.map em := h3
    subst h3'
    have h2' : lcD i t f η (xs.map h) [] st = .ok (ys.map em, st') := h2
    exact ⟨(fe ys, st'), by show lcZ (lcD i t f η (xs.map h) [] st) = _; rw [h2']; rfl, rfl, h4⟩
variable {mv : Rs δ} {mb : δ → Rs γ}
theorem w_lcL {h : α → P} {Q : γ → D × Sr → Prop} {rep : δ → D} {L1 L2 : δ → Ow} {it : δ → List α} (V : Wk L mv (fs η) (PV rep L1) X) (S : ∀ g, Src (L1 g) (rep g) ((it g).map h) (L2 g)) (B : ∀ g, Wk (L2 g) (mb g) (fun st => lcZ (lcD i t f η ((it g).map h) [] st)) Q X) : Wk L (mv.bind mb) (dLcLZ fs i t f η) Q X := by
  refine w_th (wv (K := fun d st => match toP st d with
    | some (p, st') => match itemsP p with
      | some xs => lcZ (lcD i t f η xs [] st')
      | none => .stuck
    | none => .stuck) V fun g => ?_) rfl
  intro st o
  obtain ⟨p, st', h1, h2, h3⟩ := S g st o
  dsimp only
  rw [h1]; dsimp only; rw [h2]
  exact B g st' h3
theorem w_lcR1 {Q : γ → D × Sr → Prop} {L1 : δ → Ow} {j : δ → Int} {mb : δ → List Int → Rs γ} (V : Wk L mv (fa η) (PV (fun g => [fe (j g)]) L1) X) (B : ∀ g xs, Wk (L1 g) (mb g xs) (fun st => lcZ (lcD i t f η (xs.map em) [] st)) Q X) : Wk L (mv.bind fun g => (rng1 (j g)).bind (mb g)) (dLcR1Z fa i t f η) Q X := by
  refine w_th (wv (K := fun ds st => match ds with
    | [.fz (.int j)] => if -(2 ^ 62) ≤ j ∧ j < 2 ^ 62 then lcZ (lcD i t f η (rangeP 0 j.toNat) [] st) else .stuck
    | _ => .stuck) V fun g => ?_) rfl
  unfold rng1
  by_cases hb : smallI 1000000000 (j g) = true
  · rw [if_pos hb, ok_bind]
    refine (B g (rng 0 (j g).toNat)).eqc (funext fun st => ?_)
    rw [← rng_map]
    exact if_pos (small62 hb)
  · rw [if_neg hb]; exact w_stuck
end
end N
end
section
set_option Elab.async false
set_option linter.all false
set_option maxRecDepth 100000
set_option maxHeartbeats 0
namespace N
open PySem L2 M
variable {α β γ δ σ ρ τ κ J : Type}
/-- a def of frozen arguments -/
structure Sp0 [Em τ] (m : Rs τ) (F : DF) (ps : List P) : Prop where
  h : match m with
  | .ok t => F (ps.map D.fz) [] = .ok (.fz (em t), [])
  | .exc c fs => F (ps.map D.fz) [] = .exc c fs [] []
  | .stuck => True
/-- a def of which one argument is a cell -/
structure Sp1 [Em τ] (cc : κ → Ct) (m : Rs (τ × κ)) (F : DF) (as bs : List P) (c0 : Ct) : Prop where
  h : match m with
  | .ok g => F (as.map D.fz ++ .cell 0 :: bs.map D.fz) [c0] = .ok (.fz (em g.1), [cc g.2])
  | .exc _ _ => False
  | .stuck => True
def QF0 [Em τ] : τ → Fl × Et × Sr → Prop := fun t r => ∃ d, (r.1 = .rt d ∨ (r.1 = .nx ∧ d = .fz .non)) ∧ ∃ st2, toP r.2.2 d = some (em t, st2)
def QF1 [Em τ] (cc : κ → Ct) : τ × κ → Fl × Et × Sr → Prop := fun g r => ∃ d, (r.1 = .rt d ∨ (r.1 = .nx ∧ d = .fz .non)) ∧ d ≠ .cell 0 ∧ ∃ st2, toP r.2.2 d = some (em g.1, st2) ∧ st2[0]? = some (cc g.2)
abbrev X0 : XP := fun _ _ => False
theorem endF0 {d : D} {fl : Fl} {η : Et} {st st2 : Sr} {p : P} (h : fl = .rt d ∨ (fl = .nx ∧ d = .fz .non)) (h2 : toP st d = some (p, st2)) : endF true 0 (.ok (fl, η, st)) = .ok (.fz p, []) := by
  have e : exitF true 0 d st = .ok (.fz p, []) := by
    show (match frzTop 0 st d with | some (d1, st1) => exitI 0 d1 st1 | none => .stuck) = _
    have e2 : frzTop 0 st d = some (.fz p, st2) := by
      cases d with
      | fz q => unfold toP at h2; cases h2; rfl
      | cell k =>
        show (if k < 0 then some (D.cell k, st) else Option.map (fun r => (D.fz r.fst, r.snd)) (toP st (D.cell k))) = _
        rw [if_neg (Nat.not_lt_zero _), h2]; rfl
    rw [e2]
    exact exit0 (p := p) (st := st2)
  rcases h with h | ⟨h, h'⟩
  · subst h; exact e
  · subst h; subst h'; exact e
theorem endF1 {d : D} {fl : Fl} {η : Et} {st st2 : Sr} {p : P} {c : Ct} (h : fl = .rt d ∨ (fl = .nx ∧ d = .fz .non)) (hd : d ≠ .cell 0) (h2 : toP st d = some (p, st2)) (h3 : st2[0]? = some c) (hc : plainC c = true) : endF true 1 (.ok (fl, η, st)) = .ok (.fz p, [c]) := by
  have e : exitF true 1 d st = .ok (.fz p, [c]) := by
    show (match frzTop 1 st d with | some (d1, st1) => exitI 1 d1 st1 | none => .stuck) = _
    have e2 : frzTop 1 st d = some (.fz p, st2) := by
      cases d with
      | fz q => unfold toP at h2; cases h2; rfl
      | cell k =>
        show (if k < 1 then some (D.cell k, st) else Option.map (fun r => (D.fz r.fst, r.snd)) (toP st (D.cell k))) = _
        have : ¬ k < 1 := fun hk => hd (by have : k = 0 := by omega
                                           rw [this])
        rw [if_neg this, h2]; rfl
    rw [e2]
    exact exit1 (p := p) (st := st2) h3 hc
  rcases h with h | ⟨h, h'⟩
  · subst h; exact e
  · subst h; subst h'; exact e
theorem sp0_of [Em τ] {m : Rs τ} {b : DS} {np n : Nat} {ps : List P} (hl : ps.length = np) (η0 : Et) (hη : (ps.map D.fz).map some ++ List.replicate (n - np) none = η0) (h : Wk [] m (b η0) QF0 XT) : Sp0 m (runF np n true b) ps := by
  have h := h [] (Own.nil _)
  have e : runF np n true b (ps.map D.fz) [] = endF true 0 (b η0 []) := by
    unfold runF; rw [if_pos (by rw [List.length_map]; exact hl), hη]; rfl
  refine ⟨?_⟩
  cases m with
  | stuck => trivial
  | exc c fs =>
    obtain ⟨e1, st', h1, _⟩ := h
    show runF np n true b (ps.map D.fz) [] = _
    rw [e, h1]
    show exitX 0 c fs st' = _
    unfold exitX
    rw [show exitI 0 (.fz .non) st' = .ok (.fz .non, []) from exit0 (p := .non) (st := st')]
  | ok t =>
    obtain ⟨⟨fl, e1, st'⟩, h1, d, h2, st2, h3⟩ := h
    show runF np n true b (ps.map D.fz) [] = _
    rw [e, h1]
    exact endF0 h2 h3
theorem sp1_of [Em τ] {cc : κ → Ct} {m : Rs (τ × κ)} {b : DS} {np n : Nat} {as bs : List P} {c0 : Ct} (hc : ∀ s, plainC (cc s) = true) (hl : as.length + 1 + bs.length = np) (η0 : Et) (hη : (as.map D.fz ++ .cell 0 :: bs.map D.fz).map some ++ List.replicate (n - np) none = η0) (h : Wk [(0, .c c0)] m (b η0) (QF1 cc) X0) : Sp1 cc m (runF np n true b) as bs c0 := by
  have h := h [c0] (Own.one c0)
  have e : runF np n true b (as.map D.fz ++ .cell 0 :: bs.map D.fz) [c0] = endF true 1 (b η0 [c0]) := by
    unfold runF; rw [if_pos (by simp; omega), hη]; rfl
  refine ⟨?_⟩
  cases m with
  | stuck => trivial
  | exc c fs => obtain ⟨e1, st', h1, h2⟩ := h; exact h2
  | ok g =>
    obtain ⟨⟨fl, e1, st'⟩, h1, d, h2, hd, st2, h3, h4⟩ := h
    show runF np n true b _ _ = _
    rw [e, h1]
    exact endF1 h2 hd h3 h4 (hc _)
section
variable {L L' : Ow} {d : D} {η : Et} {st : Sr}
theorem qf0 [Em τ] {t : τ} (hz : Fz L d (em t) L') (o : Own L st) : QF0 t (.rt d, η, st) := let ⟨st2, h, _⟩ := hz st o; ⟨d, .inl rfl, st2, h⟩
theorem qf0n (o : Own L st) : QF0 () (.nx, η, st) := ⟨.fz .non, .inr ⟨rfl, rfl⟩, st, rfl⟩
theorem qf1 [Em τ] {cc : κ → Ct} {t : τ} {s : κ} {p : P} (k : Nat) (hz : p = em t) (o : Own L st) (h0 : L[k]? = some (0, .c (cc s)) := by rfl) : QF1 cc (t, s) (.rt (.fz p), η, st) := ⟨_, .inl rfl, (by intro h; cases h), st, by subst hz; rfl, o.get k h0⟩
theorem qf1c [Em τ] {cc : κ → Ct} {t : τ} {s : κ} {n : Nat} {xs : List P} (k j : Nat) (hz : .lst xs = em t) (o : Own L st) (h0 : L[k]? = some (0, .c (cc s)) := by rfl) (h1 : L[j]? = some (n, .lst xs) := by rfl) (hkj : k ≠ j := by decide) : QF1 cc (t, s) (.rt (.cell n), η, st) := by
  have hn : n ≠ 0 := fun e => hkj (o.ne h0 h1 e.symm)
  refine ⟨_, .inl rfl, (by intro h; cases h; exact hn rfl), st.set n (.frz (.lst xs)), ?_, ?_⟩
  · unfold toP; dsimp only; rw [o.get j h1, ← hz]
  · rw [List.getElem?_set_ne hn]; exact o.get k h0
end
section
variable {L : Ow} {X : XP} {η : Et} {F : DF}
theorem w_call0 [Em τ] {m : Rs τ} {ps : List P} {ds : List D} (h : Sp0 m F ps) (hd : ds = ps.map D.fz) (hx : ∀ st, Own L st → X η st) : Wk L m (fun st => callF F ds η st) (PV fe fun _ => L) X := fun st o => by
  subst hd
  have h := h.h
  cases m with
  | stuck => trivial
  | exc c fs => exact ⟨η, st, callF_exc h, hx st o⟩
  | ok t => exact ⟨(fe t, st), callF_fz h, rfl, o⟩
theorem w_call1 [Em τ] {cc : κ → Ct} {m : Rs (τ × κ)} {as bs : List P} {c0 : Ct} {ds : List D} {n : Nat} (k : Nat) (h : Sp1 cc m F as bs c0) (hd : ds = as.map D.fz ++ .cell n :: bs.map D.fz) (h0 : L[k]? = some (n, .c c0)) (hc0 : plainC c0 = true) (hc : ∀ s, plainC (cc s) = true) : Wk L m (fun st => callF F ds η st) (PV (fun g => fe g.1) fun g => L.set k (n, .c (cc g.2))) X := fun st o => by
  subst hd
  have h := h.h
  cases m with
  | stuck => trivial
  | exc c fs => exact h.elim
  | ok g => exact ⟨(fe g.1, st.set n (cc g.2)), callF_c (o.get k h0) hc0 (hc _) h, rfl, o.set h0 _⟩
theorem w_ok {β : Type} {c : Sr → R (β × Sr)} {rep : γ → β} {L' : γ → Ow} {t : γ} (h : Ev L c (rep t)) (ho : ∀ st, Own L st → Own (L' t) st) : Wk L (.ok t) c (PV rep L') X := fun st o => ⟨_, h st o, rfl, ho st o⟩
theorem w_okN {c : Sr → R (D × Sr)} {ct : γ → Ct} {L' : γ → Ow} {t : γ} (h : ∀ st, Own L st → c st = .ok (.cell st.length, st ++ [ct t])) (ho : ∀ st, Own L st → Own (L' t) st) : Wk L (.ok t) c (PC ct L') X := fun st o => ⟨_, h st o, st.length, rfl, (ho st o).new _⟩
theorem w_newL [Em α] {xs : List α} {f : DA} {ds : List D} (h : Ev L (f η) ds) (hd : ds = (xs.map em).map D.fz := by rfl) (hl : xs.length ≤ 16777216 := by exact Nat.le_of_ble_eq_true rfl) : Wk L (.ok xs) (dAp lstO f η) (PC (fun xs : List α => Ct.lst (xs.map em)) fun _ => L) X := w_okN (fun st o => by
  refine e_ap (h st o) ?_
  subst hd
  unfold lstO; rw [toPs_fz]; exact if_pos (by rw [List.length_map]; exact hl)) fun _ h => h
theorem w_listO [Em α] {xs : List α} {d : D} (h : Pk L d (em xs)) : Wk L (.ok xs) (listO [d]) (PC (fun xs : List α => Ct.lst (xs.map em)) fun _ => L) X := w_okN (fun st o => by
  unfold listO; dsimp only; rw [h st o]; rfl) fun _ h => h
end
def tryRs (m : Rs γ) (h : Str → Option (List (Str × P)) → Rs γ) : Rs γ := match m with
  | .ok g => .ok g
  | .exc c fs => h c fs
  | .stuck => .stuck
@[simp] theorem tryRs_ok (g : γ) (h : Str → Option (List (Str × P)) → Rs γ) : tryRs (.ok g) h = .ok g := rfl
@[simp] theorem tryRs_exc (c : Str) (fs : Option (List (Str × P))) (h : Str → Option (List (Str × P)) → Rs γ) : tryRs (.exc c fs) h = h c fs := rfl
/-- one clause, and what comes behind it -/
def hdRs (tab : List (Str × Bool)) (m r : Str → Option (List (Str × P)) → Rs γ) (c : Str) (fs : Option (List (Str × P))) : Rs γ := match look1 c tab with
  | some true => calm (m c fs)
  | some false => r c fs
  | none => .stuck
def excRs (c : Str) (fs : Option (List (Str × P))) : Rs γ := .exc c fs
section
variable {L L2 : Ow} {X : XP} {η : Et} {b : DS} {Q : γ → Fl × Et × Sr → Prop} {m : Rs γ} {mh : Str → Option (List (Str × P)) → Rs γ} {hs : List DHd} {E : J → Et} {Lx : J → Ow}
/-- an exception's configuration -/
def XE (E : J → Et) (Lx : J → Ow) : XP := fun η st => ∃ j, η = E j ∧ Own (Lx j) st
theorem w_tryM (h1 : Wk L m (b η) Q (XE E Lx)) (h2 : ∀ j c fs, Wk (Lx j) (mh c fs) (fun st => dHds c fs (E j) st hs) Q X) : Wk L (tryRs m mh) (dTryM b hs η) Q X := fun st o => by
  have h := h1 st o
  cases m with
  | stuck => trivial
  | ok g =>
    obtain ⟨a, h3, h4⟩ := h
    exact ⟨a, by unfold dTryM; rw [h3], h4⟩
  | exc c fs =>
    obtain ⟨e, st', h3, j, h4, h5⟩ := h
    subst h4
    have e2 : dTryM b hs η st = dHds c fs (E j) st' hs := by unfold dTryM; rw [h3]
    have : (match mh c fs with | .ok g => ∃ a, dHds c fs (E j) st' hs = .ok a ∧ Q g a | .exc cl f2 => ∃ e s, dHds c fs (E j) st' hs = .exc cl f2 e s ∧ X e s | .stuck => True) := h2 j c fs st' h5
    rw [← e2] at this
    exact this
theorem wh_nil {c : Str} {fs : Option (List (Str × P))} (hx : ∀ st, Own L st → X η st) : Wk L (excRs c fs) (fun st => dHds c fs η st []) Q X := fun st o => ⟨η, st, rfl, hx st o⟩
theorem wh_one {c : Str} {fs : Option (List (Str × P))} {tab : List (Str × Bool)} {su : Str → Option (List (Str × P)) → DS} {m1 r : Str → Option (List (Str × P)) → Rs γ} (h1 : Wk L (m1 c fs) (su c fs η) Q XT) (h2 : Wk L (r c fs) (fun st => dHds c fs η st hs) Q X) : Wk L (hdRs tab m1 r c fs) (fun st => dHds c fs η st ((tab, none, su) :: hs)) Q X := fun st o => by
  unfold hdRs
  show (match (match look1 c tab with | some true => calm (m1 c fs) | some false => r c fs | none => .stuck) with | .ok g => ∃ a, (match look1 c tab with | some true => okOnly (su c fs η st) | some false => dHds c fs η st hs | none => .stuck) = R.ok a ∧ Q g a | .exc cl f2 => ∃ e s, (match look1 c tab with | some true => okOnly (su c fs η st) | some false => dHds c fs η st hs | none => .stuck) = R.exc cl f2 e s ∧ X e s | .stuck => True)
  cases look1 c tab with
  | none => trivial
  | some bb =>
    cases bb
    · exact h2 st o
    · have h := h1 st o
      dsimp only
      cases e : m1 c fs with
      | stuck => trivial
      | exc _ _ => trivial
      | ok g =>
        rw [e] at h
        obtain ⟨a, h3, h4⟩ := h
        exact ⟨a, by rw [h3]; rfl, h4⟩
end
end N
end
section
set_option Elab.async false
set_option linter.all false
set_option maxRecDepth 100000
set_option maxHeartbeats 0
namespace N
open PySem L2 M
variable {α β γ δ σ ρ τ κ J : Type}
section
variable {L L1 : Ow} {m : Rs γ} {mv : Rs δ} {Q : γ → Fl × Et × Sr → Prop} {X : XP} {η : Et} {f : DE} {t : DT} {x y z : DS} {fa ga : DA} {i : Nat}
theorem w_withS {s : κ} {m : Rs δ} {c : Sr → R (D × Sr)} {rep : δ → D} {L' : κ → Ow} (h : Wk L m c (PV rep fun _ => L) X) (ho : ∀ st, Own L st → Own (L' s) st) : Wk L (m.bind fun v => .ok (v, s)) c (PV (fun g => rep g.1) fun g => L' g.2) X := fun st o => by
  have h := h st o
  cases m with
  | stuck => trivial
  | exc c fs => exact h
  | ok v =>
    obtain ⟨⟨d, st'⟩, h1, h2, h3⟩ := h
    exact ⟨_, h1, h2, ho _ h3⟩
theorem ws_ifG {mb : Rs δ} {bv : δ → Bool} {ma mz : δ → Rs γ} {L' : δ → Ow} (V : Wk L mb (t η) (PV bv L') X) (ha : ∀ g, Wk (L' g) (ma g) (dSeq x y η) Q X) (hz : ∀ g, Wk (L' g) (mz g) (dSeq z y η) Q X) : Wk L (mb.bind fun g => if bv g = true then ma g else mz g) (dSeq (dIf t x z) y η) Q X := by
  refine w_th (wv (K := fun b st => if b = true then dSeq x y η st else dSeq z y η st) V fun g => ?_) (funext fun st => ?_)
  · cases bv g
    · exact hz g
    · exact ha g
  · unfold th dSeq dIf
    cases t η st with
    | ok a => obtain ⟨b, s⟩ := a; cases b <;> rfl
    | exc c fs e s => rfl
    | stuck => rfl
theorem ws_ret0 {g : γ} {d : D} (V : Ev L (f η) d) (hq : ∀ st, Own L st → Q g (.rt d, η, st)) : Wk L (.ok g) (dSeq (dRet f) y η) Q X := fun st o => ⟨(.rt d, η, st), by unfold dSeq dRet; rw [V st o]; rfl, hq st o⟩
theorem w_calm {c : Sr → R (D × Sr)} {rep : δ → D} {L' : δ → Ow} {m : Rs δ} (h : Wk L m c (PV rep L') XT) : Wk L (calm m) c (PV rep L') X := fun st o => by
  have h := h st o
  cases m with
  | stuck => trivial
  | exc c fs => trivial
  | ok v => exact h
theorem inV_em (v : Int) (acc : List Int) : inV (.int v) (acc.map V.int) = decide (v ∈ acc) := by
  unfold inV
  rw [List.any_map]
  induction acc with
  | nil => rfl
  | cons x r ih =>
    rw [List.any_cons, ih]
    have e : ((fun y => eqV y (V.int v)) ∘ V.int) x = decide (x = v) := by
      show eqV (.int x) (.int v) = _
      by_cases h : x = v <;> simp [eqV, h]
    rw [e]
    by_cases h : x = v
    · subst h; simp
    · have h' : ¬ v = x := fun e => h e.symm
      simp [h, h']
theorem flat_ints : ∀ acc : List Int, (acc.map P.int).all flatP = true
  | [] => rfl
  | x :: r => by rw [List.map_cons, List.all_cons, flat_ints r]; rfl
theorem vP_ints : ∀ acc : List Int, (acc.map P.int).map vP = acc.map V.int
  | [] => rfl
  | x :: r => by rw [List.map_cons, List.map_cons, List.map_cons, vP_ints r]; rfl
theorem inB_ints (v : Int) (xs : List Int) : inB (.int v) (.lst (xs.map P.int)) = some (decide (v ∈ xs)) := by
  unfold inB
  dsimp only
  rw [if_pos ⟨rfl, flat_ints xs⟩, vP_ints]
  exact congrArg some (inV_em v xs)
theorem inB_intsT (v : Int) (xs : List Int) : inB (.int v) (.tup (xs.map P.int)) = some (decide (v ∈ xs)) := by
  unfold inB
  dsimp only
  rw [if_pos ⟨rfl, flat_ints xs⟩, vP_ints]
  exact congrArg some (inV_em v xs)
theorem ev_inI {d : D} {v : Int} {xs : List Int} (h : Pk L d (em xs)) : Ev L (inO (fe v) d) (fe (decide (v ∈ xs))) := fun st o => by
  unfold inO; rw [h st o]
  show (match inB (.int v) (.lst (xs.map P.int)) with | some b => R.ok (D.fz (.bl b), st) | none => .stuck) = _
  rw [inB_ints]; rfl
theorem ev_inIT {d : D} {v : Int} {xs : Tu Int} (h : Pk L d (em xs)) : Ev L (inO (fe v) d) (fe (decide (v ∈ xs.l))) := fun st o => by
  unfold inO; rw [h st o]
  show (match inB (.int v) (.tup (xs.l.map P.int)) with | some b => R.ok (D.fz (.bl b), st) | none => .stuck) = _
  rw [inB_intsT]; rfl
end
structure Rol where
  l : List Int
instance : Em Rol := ⟨fun r => .rol (r.l.map em)⟩
section
variable {L : Ow} {X : XP} {η : Et} {f : DE} {fa : DA} {gs : DG} {b y : DS}
theorem w_forR1P {j : Int} {mb : List Int → Rs γ} {e : DE} {Q : γ → Fl × Et × Sr → Prop} (V : Ev L (e η) (fe j)) (B : ∀ xs, Wk L (mb xs) (loopD gs b (xs.map em) η) Q X) : Wk L ((rng1 j).bind mb) (dForR1 (dCons e dNil) gs b η) Q X :=
  w_forR1 (mv := Rs.ok ()) (j := fun _ => j) (mb := fun _ => mb) (w_ev (ev_cons V ev_nil)) fun _ => B
end
structure SpN (ct : τ → Ct) (m : Rs τ) (F : DF) (ps : List P) : Prop where
  h : match m with
  | .ok t => F (ps.map D.fz) [] = .ok (.cell 0, [ct t])
  | .exc c fs => F (ps.map D.fz) [] = .exc c fs [] []
  | .stuck => True
theorem w_callN {L : Ow} {X : XP} {η : Et} {F : DF} {ct : τ → Ct} (hc : ∀ t, plainC (ct t) = true) {m : Rs τ} {ps : List P} {ds : List D} (h : SpN ct m F ps) (hd : ds = ps.map D.fz) (hx : ∀ st, Own L st → X η st) : Wk L m (fun st => callF F ds η st) (PC ct fun _ => L) X := fun st o => by
  subst hd
  have h := h.h
  cases m with
  | stuck => trivial
  | exc c fs => exact ⟨η, st, callF_exc h, hx st o⟩
  | ok t => exact ⟨(.cell st.length, st ++ [ct t]), callF_new h (hc _), st.length, rfl, o.new _⟩
end N
end
section
set_option Elab.async false
set_option linter.all false
set_option maxRecDepth 100000
set_option maxHeartbeats 0
namespace N
open PySem L2 M
variable {α β γ δ σ ρ τ : Type}
def Gets (m : Rs α) (P : α → Prop) : Prop := ∃ a, m = .ok a ∧ P a
theorem gets_ok {a : α} {P : α → Prop} (h : P a) : Gets (.ok a) P := ⟨a, rfl, h⟩
theorem gets_eq {m : Rs α} {a : α} {P : α → Prop} (e : m = .ok a) (h : P a) : Gets m P := ⟨a, e, h⟩
theorem Gets.eq {m : Rs α} {a : α} (h : Gets m (· = a)) : m = .ok a := by obtain ⟨b, h1, h2⟩ := h; rw [h1, h2]
theorem Gets.mono {m : Rs α} {P Q : α → Prop} (h : Gets m P) (i : ∀ a, P a → Q a) : Gets m Q := let ⟨a, h1, h2⟩ := h; ⟨a, h1, i a h2⟩
theorem gets_bind {m : Rs α} {k : α → Rs β} {P : α → Prop} {Q : β → Prop} (h : Gets m P) (hk : ∀ a, P a → Gets (k a) Q) : Gets (m.bind k) Q := by
  obtain ⟨a, h1, h2⟩ := h
  rw [h1, ok_bind]
  exact hk a h2
theorem gets_bindE {m : Rs α} {k : α → Rs β} {a : α} {Q : β → Prop} (h : m = .ok a) (hk : Gets (k a) Q) : Gets (m.bind k) Q := by rw [h, ok_bind]; exact hk
theorem gets_if {b : Bool} {x y : Rs α} {Q : α → Prop} (h1 : b = true → Gets x Q) (h2 : b = false → Gets y Q) : Gets (if b = true then x else y) Q := by
  cases b
  · exact h2 rfl
  · exact h1 rfl
theorem gets_ifP {p : Prop} [Decidable p] {x y : Rs α} {Q : α → Prop} (h1 : p → Gets x Q) (h2 : ¬ p → Gets y Q) : Gets (if decide p = true then x else y) Q := gets_if (fun h => h1 (of_decide_eq_true h)) (fun h => h2 (of_decide_eq_false h))
theorem if_t {b : Bool} {x y r : Rs α} (hb : b = true) (h : x = r) : (if b = true then x else y) = r := by rw [if_pos hb]; exact h
theorem if_f {b : Bool} {x y r : Rs α} (hb : b = false) (h : y = r) : (if b = true then x else y) = r := by rw [hb]; exact h
theorem idx_nat {xs : List α} {k : Nat} {a : α} (h : xs[k]? = some a) : idx xs (k : Int) = .ok a := by
  unfold idx L2.atI L2.ixN
  have hl := (List.getElem?_eq_some_iff.mp h).1
  rw [if_pos (Int.natCast_nonneg k), if_pos (Int.ofNat_lt.mpr hl)]
  show (match xs[(k : Int).toNat]? with | some a => Rs.ok a | none => .stuck) = _
  rw [Int.toNat_natCast, h]
theorem idx_pos {xs : List α} {i : Int} {a : α} (hi : 0 ≤ i) (h : xs[i.toNat]? = some a) : idx xs i = .ok a := by
  have := idx_nat h
  rwa [Int.toNat_of_nonneg hi] at this
theorem idx_last {xs : List α} {a : α} (h : xs.getLast? = some a) : idx xs (-1) = .ok a := by
  have hl : xs ≠ [] := by rintro rfl; cases h
  have hp : 0 < xs.length := List.length_pos_iff.mpr hl
  unfold idx L2.atI L2.ixN
  rw [if_neg (by decide), if_pos (by omega)]
  show (match xs[((-1 : Int) + (xs.length : Int)).toNat]? with | some a => Rs.ok a | none => .stuck) = _
  rw [show ((-1 : Int) + (xs.length : Int)).toNat = xs.length - 1 by omega, ← List.getLast?_eq_getElem?, h]
theorem idx_head {xs : List α} {a : α} (h : xs.head? = some a) : idx xs 0 = .ok a := idx_nat (k := 0) (by rw [← List.head?_eq_getElem?]; exact h)
theorem idx_cons0 {a : α} {xs : List α} : idx (a :: xs) 0 = .ok a := idx_head rfl
theorem idx_mem {xs : List α} {i : Int} (h0 : 0 ≤ i) (h1 : i < xs.length) : ∃ a, idx xs i = .ok a ∧ a ∈ xs ∧ xs[i.toNat]? = some a := by
  have hl : i.toNat < xs.length := by omega
  exact ⟨xs[i.toNat], idx_pos h0 (List.getElem?_eq_getElem hl), List.getElem_mem hl, List.getElem?_eq_getElem hl⟩
@[simp] theorem lenI_eq (xs : List α) : lenI xs = (xs.length : Int) := rfl
theorem app_ok {xs : List α} {x : α} (h : xs.length < 16777216) : app xs x = .ok (xs ++ [x]) := by unfold app; exact if_pos h
theorem cat_ok {xs ys : List α} (h : xs.length + ys.length ≤ 16777216) : cat xs ys = .ok (xs ++ ys) := by unfold cat; exact if_pos h
theorem small_of {b : Nat} {i : Int} (h1 : -((b : Int) + 1) ≤ i) (h2 : i ≤ b) : smallI b i = true := small_iff.mpr ⟨h1, h2⟩
theorem mulM_r {i j : Int} (h : -18446744073709551615 ≤ j ∧ j ≤ 18446744073709551614) : mulM i j = .ok (i * j) := by
  unfold mulM; exact if_pos (by rw [small_of (i := j) h.1 h.2, Bool.or_true])
theorem modM_ok {i j : Int} (h : 0 < j) : modM i j = .ok (i % j) := by unfold modM; exact if_pos h
theorem fdivM_ok {i j : Int} (h : 0 < j ∧ j < 1073741824) : fdivM i j = .ok (i / j) := by unfold fdivM; exact if_pos h
theorem rng1_nat {k : Nat} (h : k ≤ 1000000) : rng1 (k : Int) = .ok (rng 0 k) := by unfold rng1; rw [if_pos (small_of (by omega) (by omega)), Int.toNat_natCast]
theorem rng1_ok {z : Int} (h0 : 0 ≤ z) (h : z ≤ 1000000) : rng1 z = .ok (rng 0 z.toNat) := by
  have := rng1_nat (k := z.toNat) (by omega)
  rwa [Int.toNat_of_nonneg h0] at this
theorem lrg_ok {k : Nat} (h : k ≤ 16777216) : lrg (k : Int) = .ok (rng 0 k) := by
  unfold lrg
  rw [if_pos ⟨Int.natCast_nonneg k, by omega⟩, Int.toNat_natCast]
theorem rng_len (lo : Int) (n : Nat) : (rng lo n).length = n := by simp [rng]
theorem rng_mem {lo x : Int} {n : Nat} : x ∈ rng lo n ↔ lo ≤ x ∧ x < lo + n := by
  unfold rng
  rw [List.mem_map]
  constructor
  · rintro ⟨i, hi, rfl⟩
    have := List.mem_range.mp hi
    omega
  · rintro ⟨h1, h2⟩
    exact ⟨(x - lo).toNat, List.mem_range.mpr (by omega), by omega⟩
@[simp] theorem unw_some (a : α) : unw (some a) = .ok a := rfl
@[simp] theorem calm_ok (a : α) : calm (.ok a) = .ok a := rfl
theorem sIx_none {n d : Nat} : HT.sIx n d none = d := rfl
theorem sIx_pos {n d : Nat} {v : Int} (h : 0 ≤ v) : HT.sIx n d (some v) = min v.toNat n := by
  exact if_neg (c := v < 0) (by omega)
theorem cut_take {xs : List α} {k : Int} (h : 0 ≤ k) : cut xs none (some k) = xs.take k.toNat := by
  unfold cut
  rw [sIx_none, sIx_pos h, List.drop_zero, Nat.sub_zero]
  rcases Nat.le_total k.toNat xs.length with h' | h'
  · rw [Nat.min_eq_left h']
  · rw [Nat.min_eq_right h', List.take_length, List.take_of_length_le h']
theorem cut_drop {xs : List α} {k : Int} (h : 0 ≤ k) : cut xs (some k) none = xs.drop k.toNat := by
  unfold cut
  rw [sIx_none, sIx_pos h]
  rcases Nat.le_total k.toNat xs.length with h' | h'
  · rw [Nat.min_eq_left h']; exact List.take_of_length_le (by simp)
  · rw [Nat.min_eq_right h', Nat.sub_self, List.take_zero, List.drop_eq_nil_of_le h']
@[simp] theorem foldRs_nil (f : σ → α → Rs σ) (s : σ) : foldRs f [] s = .ok s := rfl
theorem foldRs_cons (f : σ → α → Rs σ) (x : α) (xs : List α) (s : σ) : foldRs f (x :: xs) s = (f s x).bind (foldRs f xs) := rfl
/-- an invariant by what is done -/
theorem gets_fold {f : σ → α → Rs σ} (I : List α → σ → Prop) : ∀ (xs pre : List α) (s : σ), I pre s → (∀ p s x r, p ++ x :: r = pre ++ xs → I p s → Gets (f s x) (I (p ++ [x]))) → Gets (foldRs f xs s) (I (pre ++ xs))
  | [], pre, s, hi, _ => ⟨s, rfl, by rw [List.append_nil]; exact hi⟩
  | x :: xs, pre, s, hi, h => by
    rw [foldRs_cons]
    refine gets_bind (h pre s x xs rfl hi) fun s' hs' => ?_
    have e : pre ++ x :: xs = (pre ++ [x]) ++ xs := by simp
    rw [e]
    exact gets_fold I xs (pre ++ [x]) s' hs' fun p s y r hp hI => h p s y r (by rw [hp, e]) hI
@[simp] theorem loopRs_nil (f : σ → α → Rs (LC σ ρ)) (s : σ) : loopRs f [] s = .ok (.inl s) := rfl
theorem loopRs_nx {f : σ → α → Rs (LC σ ρ)} {x : α} {xs : List α} {s s' : σ} (h : f s x = .ok (.nx s')) : loopRs f (x :: xs) s = loopRs f xs s' := by
  show (f s x).bind _ = _
  rw [h]; rfl
theorem loopRs_rt {f : σ → α → Rs (LC σ ρ)} {x : α} {xs : List α} {s : σ} {v : ρ} (h : f s x = .ok (.rt v)) : loopRs f (x :: xs) s = .ok (.inr v) := by
  show (f s x).bind _ = _
  rw [h]; rfl
/-- a loop that never returns -/
theorem loopRs_all {f : Unit → α → Rs (LC Unit ρ)} : ∀ (xs : List α), (∀ x ∈ xs, f () x = .ok (.nx ())) → loopRs f xs () = .ok (.inl ())
  | [], _ => rfl
  | x :: xs, h => by
    rw [loopRs_nx (h x List.mem_cons_self)]
    exact loopRs_all xs fun y hy => h y (List.mem_cons_of_mem _ hy)
/-- a searching loop -/
theorem loopRs_find {f : Unit → α → Rs (LC Unit ρ)} {c : α → Option ρ} : ∀ (xs : List α), (∀ x ∈ xs, f () x = .ok (match c x with | some v => .rt v | none => .nx ())) → loopRs f xs () = .ok (match xs.findSome? c with | some v => .inr v | none => .inl ())
  | [], _ => rfl
  | x :: xs, h => by
    have h1 := h x List.mem_cons_self
    rw [List.findSome?_cons]
    cases e : c x with
    | some v => rw [e] at h1; rw [loopRs_rt h1]
    | none =>
      rw [e] at h1
      rw [loopRs_nx h1]
      exact loopRs_find xs fun y hy => h y (List.mem_cons_of_mem _ hy)
theorem lcN_map {f : α → Rs β} {g : α → β} : ∀ (xs : List α) (acc : List β), (∀ x ∈ xs, f x = .ok (g x)) → acc.length + xs.length ≤ 16777216 → lcN yes f xs acc = .ok (acc ++ xs.map g)
  | [], acc, _, _ => by rw [List.map_nil, List.append_nil]; rfl
  | x :: xs, acc, h, hl => by
    simp only [List.length_cons] at hl
    show (Rs.ok true).bind _ = _
    rw [ok_bind, if_pos rfl, h x List.mem_cons_self, ok_bind, if_pos (by omega), lcN_map xs (acc ++ [g x]) (fun y hy => h y (List.mem_cons_of_mem _ hy)) (by rw [List.length_append]; simp only [List.length_cons, List.length_nil]; omega)]
    simp
theorem lcN_ok {f : α → Rs β} {g : α → β} {xs : List α} (h : ∀ x ∈ xs, f x = .ok (g x)) (hl : xs.length ≤ 16777216) : calm (lcN yes f xs []) = .ok (xs.map g) := by
  rw [lcN_map xs [] h (by simpa using hl)]; rfl
theorem lcN_filt {t : α → Rs Bool} {f : α → Rs β} {p : α → Bool} {g : α → β} : ∀ (xs : List α) (acc : List β), (∀ x ∈ xs, t x = .ok (p x)) → (∀ x ∈ xs, p x = true → f x = .ok (g x)) → acc.length + xs.length ≤ 16777216 → lcN t f xs acc = .ok (acc ++ (xs.filter p).map g)
  | [], acc, _, _, _ => by rw [List.filter_nil, List.map_nil, List.append_nil]; rfl
  | x :: xs, acc, h1, h2, hl => by
    simp only [List.length_cons] at hl
    show (t x).bind _ = _
    rw [h1 x List.mem_cons_self, ok_bind]
    have r1 : ∀ y ∈ xs, t y = .ok (p y) := fun y hy => h1 y (List.mem_cons_of_mem _ hy)
    have r2 : ∀ y ∈ xs, p y = true → f y = .ok (g y) := fun y hy => h2 y (List.mem_cons_of_mem _ hy)
    cases hp : p x with
    | true =>
      rw [if_pos rfl, h2 x List.mem_cons_self hp, ok_bind, if_pos (by omega), lcN_filt xs (acc ++ [g x]) r1 r2 (by rw [List.length_append]; simp only [List.length_cons, List.length_nil]; omega), List.filter_cons_of_pos hp]
      simp
    | false =>
      rw [if_neg (by decide), lcN_filt xs acc r1 r2 (by omega), List.filter_cons_of_neg (by rw [hp]; decide)]
theorem lcN_filter {t : α → Rs Bool} {f : α → Rs β} {p : α → Bool} {g : α → β} {xs : List α} (h1 : ∀ x ∈ xs, t x = .ok (p x)) (h2 : ∀ x ∈ xs, p x = true → f x = .ok (g x)) (hl : xs.length ≤ 16777216) : calm (lcN t f xs []) = .ok ((xs.filter p).map g) := by
  rw [lcN_filt xs [] h1 h2 (by simpa using hl)]; rfl
/-- a loop of checks -/
theorem foldRs_check {f : Unit → α → Rs Unit} {c : Str} {fs : Option (List (Str × P))} {p : α → Bool} : ∀ (xs : List α), (∀ x ∈ xs, f () x = if p x = true then .ok () else .exc c fs) → foldRs f xs () = if xs.all p = true then .ok () else .exc c fs
  | [], _ => rfl
  | x :: xs, h => by
    rw [foldRs_cons, h x List.mem_cons_self, List.all_cons]
    cases p x with
    | false => rfl
    | true => rw [if_pos rfl, ok_bind, Bool.true_and]; exact foldRs_check xs fun y hy => h y (List.mem_cons_of_mem _ hy)
mutual
theorem eqv_refl : ∀ d : PyData, d.canLay0 = true → PyData.eqv d d = true
  | .none, _ => rfl
  | .bool b, _ => by simp [PyData.eqv]
  | .int i, _ => by simp [PyData.eqv]
  | .str x, _ => by simp [PyData.eqv]
  | .list xs, h => by rw [PyData.eqv]; exact eqvAll_refl xs (by simpa [PyData.canLay0] using h)
  | .tuple xs, h => by rw [PyData.eqv]; exact eqvAll_refl xs (by simpa [PyData.canLay0] using h)
  | .dict _, h => by simp [PyData.canLay0] at h
theorem eqvAll_refl : ∀ xs : List PyData, PyData.canLayAll0 xs = true → PyData.eqvAll xs xs = true
  | [], _ => rfl
  | x :: xs, h => by
    rw [PyData.canLayAll0, Bool.and_eq_true] at h
    rw [PyData.eqvAll, eqv_refl x h.1, eqvAll_refl xs h.2]; rfl
end
theorem eqP_self {p : P} (h : shP p = true) : eqP p p = true := eqv_refl _ (Bool.and_eq_true_iff.mp h).1
theorem neM_self {p : P} (h : shP p = true) : neM p p = .ok false := by unfold neM; rw [if_pos ⟨h, h⟩, eqP_self h]; rfl
end N
end
section
set_option Elab.async false
set_option linter.all false
set_option maxRecDepth 100000
set_option maxHeartbeats 0
namespace N
open PySem L2 M
inductive Ent where
  | i (v : Int) | h (t : T2 Int Int)
  deriving DecidableEq
instance : Em Ent := ⟨fun e => match e with
  | .i v => .int v
  | .h t => em t⟩
instance : NoN Ent := ⟨fun e => by cases e <;> exact ⟨rfl, rfl, rfl⟩⟩
instance : EmE Ent := ⟨fun a b => by
    cases a with
    | i v => cases b with
      | i u => exact (EmE.eqe v u).trans (by simp)
      | h t => exact (show false = _ by simp)
    | h s => cases b with
      | i u => exact (show false = _ by simp)
      | h t => exact (EmE.eqe s t).trans (by simp), fun a => by
    cases a with
    | i v => rfl
    | h t => exact EmE.can t, 1, fun a => by
    cases a with
    | i v => exact Nat.zero_le _
    | h t => exact EmE.dle t⟩
def Ent.len (e : Ent) : Rs Int := match e with
  | .i _ => .stuck
  | .h _ => .ok 2
variable {α β γ δ σ ρ τ κ : Type}
section
variable {m : Rs γ} {Q : γ → Fl × Et × Sr → Prop} {L : Ow} {X : XP} {η : Et} {f : DE} {y : DS} {d e : D} {i j : Int}
/-- what isinstance says of a datum -/
def isiB (T : String) (p : P) : Option Bool := (tyP p).bind fun t => kitB t T
theorem ev_isi {T : String} {p : P} {b : Bool} (h : Pk L d p) (hb : isiB T p = some b) : Ev L (isiO T d) (fe b) := fun st o => by
  unfold isiO isiB at *
  rw [h st o]
  obtain ⟨t, e1, e2⟩ := Option.bind_eq_some_iff.mp hb
  rw [show (some p).bind tyP = some t from e1]
  dsimp only
  rw [e2]; rfl
theorem flat_eq {p q : P} (hp : flatP p = true) (hq : flatP q = true) : eqV (vP p) (vP q) = eqP p q := by
  cases p <;> cases hp <;> cases q <;> cases hq <;> first | rfl | skip
theorem inB_em [Em α] [DecidableEq α] [EmE α] (x : α) (xs : List α) (h : EmE.dep α + 1 ≤ 64 := by decide) : inB (em x) (em xs) = some (decide (x ∈ xs)) := by
  have key : (xs.map em).any (fun z => eqP z (em x)) = decide (x ∈ xs) := by
    rw [List.any_map]
    induction xs with
    | nil => rfl
    | cons y r ih =>
      rw [List.any_cons, ih]
      show (eqP (em y) (em x) || _) = _
      rw [eqP_em]
      by_cases e : y = x
      · subst e; simp
      · have e' : ¬ x = y := fun h => e h.symm
        simp [e, e']
  show (if flatP (em x) = true ∧ (xs.map em).all flatP = true then some (inV (vP (em x)) ((xs.map em).map vP)) else if shP (em x) = true ∧ shP (em xs) = true then some ((xs.map em).any fun z => eqP z (em x)) else none) = _
  by_cases hf : flatP (em x) = true ∧ (xs.map em).all flatP = true
  · rw [if_pos hf, ← key]
    unfold inV
    rw [List.any_map]
    have : ∀ l : List P, l.all flatP = true → l.any ((fun y => eqV y (vP (em x))) ∘ vP) = l.any fun z => eqP z (em x) := by
      intro l hl
      induction l with
      | nil => rfl
      | cons z r ih =>
        rw [List.all_cons, Bool.and_eq_true] at hl
        rw [List.any_cons, List.any_cons, ih hl.2]
        show (eqV (vP z) (vP (em x)) || _) = _
        rw [flat_eq hl.1 hf.1]
    exact congrArg some (this _ hf.2)
  · rw [if_neg hf, if_pos ⟨shP_em x (by omega), shP_em xs h⟩, key]
theorem ev_inE [Em α] [DecidableEq α] [EmE α] {x : α} {xs : List α} (h : Pk L d (em xs)) (hd : EmE.dep α + 1 ≤ 64 := by decide) : Ev L (inO (fe x) d) (fe (decide (x ∈ xs))) := fun st o => by
  unfold inO; rw [h st o]
  show (match inB (em x) (em xs) with | some b => R.ok (D.fz (.bl b), st) | none => .stuck) = _
  rw [inB_em x xs hd]; rfl
theorem sortG_int {d : D} {st : Sr} {p : P} {xs : List Int} (h : peek st d = some p) (hi : itemsP p = some (xs.map em)) : sortG [d] st = .ok (fe (Kd.sortI xs), st) := by
  unfold sortG
  dsimp only
  rw [h, show (some p).bind itemsP = some (xs.map em) from hi]
  dsimp only
  rw [intsP_map]
  rfl
theorem ev_sortGL {xs : List Int} (h : Pk L d (em xs)) : Ev L (sortG [d]) (fe (Kd.sortI xs)) := fun st o => sortG_int (h st o) rfl
/-- a new list of things that were worked out in turn -/
theorem w_lstN [Em α] {ds : List D} {xs : List α} {t : γ} {ct : γ → Ct} {L' : γ → Ow} (hd : ds = (xs.map em).map D.fz) (hc : ct t = .lst (xs.map em)) (hL : L' t = L) (hl : xs.length ≤ 16777216 := by exact Nat.le_of_ble_eq_true rfl) : Wk L (.ok t) (lstO ds) (PC ct L') X := fun st o => by
  have e : lstO ds st = .ok (.cell st.length, st ++ [.lst (xs.map em)]) := by
    subst hd
    have h2 : toPs st ((xs.map em).map D.fz) = some (xs.map em, st) := toPs_fz _ _
    unfold lstO
    rw [h2]
    show (if (xs.map em).length ≤ szL then _ else _) = _
    rw [if_pos (by rw [List.length_map]; exact hl)]
  refine ⟨_, e, st.length, rfl, ?_⟩
  rw [hL, hc]
  exact o.new _
theorem w_one {mv : Rs δ} {rep : δ → D} {L' : δ → Ow} (V : Wk L mv (f η) (PV rep L') X) : Wk L mv (dCons f dNil η) (PV (fun g => [rep g]) L') X := fun st o => by
  have h := V st o
  cases mv with
  | stuck => trivial
  | exc cl fs =>
    obtain ⟨e, st', h1, h2⟩ := h
    exact ⟨e, st', by unfold dCons; rw [h1]; rfl, h2⟩
  | ok g =>
    obtain ⟨⟨b, st'⟩, h1, h2, h3⟩ := h
    cases h2
    exact ⟨([rep g], st'), by unfold dCons; rw [h1]; rfl, rfl, h3⟩
def Ent.int (e : Ent) : Rs Int := match e with
  | .i v => .ok v
  | .h _ => .stuck
end
end N
end
section
set_option Elab.async false
set_option linter.all false
set_option maxRecDepth 100000
set_option maxHeartbeats 0
namespace N
open PySem L2 M
variable {α β γ δ σ ρ τ κ J : Type}
def lcNS (f : κ → α → Rs (β × κ)) : List α → List β → κ → Rs (List β × κ)
  | [], acc, s => .ok (acc, s)
  | x :: xs, acc, s => (f s x).bind fun r => if acc.length < 16777216 then lcNS f xs (acc ++ [r.1]) r.2 else .stuck
section
variable {X : XP} {η : Et} {f : DE} {i : Nat} {Lf : κ → Ow}
theorem lcS_walk [Em β] {h : α → P} {mf : κ → α → Rs (β × κ)} (hf : ∀ s x, Wk (Lf s) (mf s x) (f (η.set i (some (.fz (h x))))) (PV (fun g => fe g.1) fun g => Lf g.2) XT) :
    ∀ (xs : List α) (acc : List β) (s : κ), Wk (Lf s) (lcNS mf xs acc s) (lcD i dYes f η (xs.map h) (acc.map em)) (fun r a => a.1 = r.1.map em ∧ Own (Lf r.2) a.2) XT
  | [], acc, s => fun st o => ⟨_, rfl, rfl, o⟩
  | x :: xs, acc, s => fun st o => by
    have h1 := hf s x st o
    unfold lcNS
    have e0 : lcD i dYes f η ((x :: xs).map h) (acc.map em) st = (f (η.set i (some (.fz (h x)))) st).bind fun b => match toP b.2 b.1 with
      | some (p, st2) => if (acc.map em).length < szL then lcD i dYes f η (xs.map h) (acc.map em ++ [p]) st2 else .stuck
      | none => .stuck := rfl
    cases hm : mf s x with
    | stuck => trivial
    | exc cl fs =>
      rw [hm] at h1
      obtain ⟨e, st', h2, h3⟩ := h1
      exact ⟨e, st', by rw [e0, h2]; rfl, h3⟩
    | ok r =>
      rw [hm] at h1
      obtain ⟨⟨d, st'⟩, h2, h3, h4⟩ := h1
      have h3' : d = fe r.1 := h3
      subst h3'
      rw [ok_bind]
      by_cases hl : acc.length < 16777216
      · rw [if_pos hl]
        have h5 := lcS_walk hf xs (acc ++ [r.1]) r.2 st' h4
        have e1 : lcD i dYes f η ((x :: xs).map h) (acc.map em) st = lcD i dYes f η (xs.map h) ((acc ++ [r.1]).map em) st' := by
          rw [e0, h2, bind_ok, List.map_append]
          exact if_pos (by rw [List.length_map]; exact hl)
        rw [← e1] at h5
        exact h5
      · rw [if_neg hl]; trivial
theorem lcSZ_walk [Em β] {h : α → P} {mf : κ → α → Rs (β × κ)} (hf : ∀ s x, Wk (Lf s) (mf s x) (f (η.set i (some (.fz (h x))))) (PV (fun g => fe g.1) fun g => Lf g.2) XT) (xs : List α) (s : κ) :
    Wk (Lf s) (calm (lcNS mf xs [] s)) (fun st => lcZ (lcD i dYes f η (xs.map h) [] st)) (PV (fun g => fe g.1) fun g => Lf g.2) X := fun st o => by
  have h1 := lcS_walk hf xs [] s st o
  cases e : lcNS mf xs [] s with
  | stuck => trivial
  | exc c fs => trivial
  | ok ys =>
    rw [e] at h1
    obtain ⟨⟨zs, st'⟩, h2, h3, h4⟩ := h1
    have h3' : zs = ys.1.map em := h3
    subst h3'
    have h2' : lcD i dYes f η (xs.map h) [] st = .ok (ys.1.map em, st') := h2
    exact ⟨(fe ys.1, st'), by show lcZ (lcD i dYes f η (xs.map h) [] st) = _; rw [h2']; rfl, rfl, h4⟩
/-- the rule for the mathematics -/
theorem lcNS_ok {mf : κ → α → Rs (β × κ)} {Q : β → Prop} : ∀ (xs : List α) (acc : List β) (s : κ), (∀ s x, ∃ y s', mf s x = .ok (y, s') ∧ Q y) → acc.length + xs.length ≤ 16777216 → ∃ ys s', lcNS mf xs acc s = .ok (acc ++ ys, s') ∧ ys.length = xs.length ∧ ∀ y ∈ ys, Q y
  | [], acc, s, _, _ => ⟨[], s, by rw [List.append_nil]; rfl, rfl, fun _ h => by cases h⟩
  | x :: xs, acc, s, h, hl => by
    obtain ⟨y, s1, e1, q1⟩ := h s x
    obtain ⟨ys, s', e, e2, e3⟩ := lcNS_ok xs (acc ++ [y]) s1 h (by simp at hl ⊢; omega)
    refine ⟨y :: ys, s', ?_, by simp [e2], fun z hz => ?_⟩
    · unfold lcNS
      rw [e1, ok_bind]
      dsimp only
      rw [if_pos (by simp at hl; omega), e, List.append_assoc]; rfl
    · rcases List.mem_cons.mp hz with rfl | hz
      · exact q1
      · exact e3 z hz
end
end N
end
section
set_option Elab.async false
set_option linter.all false
set_option maxRecDepth 100000
set_option maxHeartbeats 0
namespace N
open PySem L2 M
variable {α β γ δ σ ρ τ κ J : Type}
/-- a cell without further cells in it -/
structure KidC (c : Ct) : Prop where
  cells : cellsC c = []
  ren : ∀ ids, renC ids c = some c
  bk : ∀ ids n, bkC ids n c = c
def fzF (fs : List (Str × P)) : List (Str × D) := fs.map fun q => (q.1, D.fz q.2)
theorem cellsF_fz : ∀ fs : List (Str × P), cellsF (fzF fs) = []
  | [] => rfl
  | q :: r => by show [] ++ cellsF (fzF r) = []; rw [cellsF_fz r]; rfl
theorem renF_fz (ids : List Nat) : ∀ fs : List (Str × P), renF ids (fzF fs) = some (fzF fs)
  | [] => rfl
  | q :: r => by
    show renF ids ((q.1, D.fz q.2) :: fzF r) = some ((q.1, D.fz q.2) :: fzF r)
    unfold renF; rw [renF_fz ids r]; rfl
theorem bkF_fz (ids : List Nat) (n : Nat) : ∀ fs : List (Str × P), bkF ids n (fzF fs) = fzF fs
  | [] => rfl
  | q :: r => by
    show bkF ids n ((q.1, D.fz q.2) :: fzF r) = (q.1, D.fz q.2) :: fzF r
    unfold bkF; rw [bkF_fz ids n r]; rfl
theorem kid_obj (c : Str) (fs : List (Str × P)) : KidC (.obj c (fzF fs)) := ⟨cellsF_fz fs, fun ids => by
    show (renF ids (fzF fs)).map (Ct.obj c) = _
    rw [renF_fz]; rfl, fun ids n => by show Ct.obj c (bkF ids n (fzF fs)) = _; rw [bkF_fz]⟩
theorem reach_k {st : Sr} {n : Nat} {c : Ct} (hn : st[n]? = some c) (hc : KidC c) : reach st [n] = [n] := by
  have g1 : grow st [n] [n] = [n] := by
    show grow st (match st[n]? with | some c => addNew [n] (cellsC c) | none => [n]) [] = [n]
    rw [hn]
    show grow st (addNew [n] (cellsC c)) [] = [n]
    rw [hc.cells]
    rfl
  show grow st (grow st [n] [n]) (grow st [n] [n]) = [n]
  rw [g1, g1]
theorem subS_k {st : Sr} {n : Nat} {c : Ct} (hn : st[n]? = some c) (hc : KidC c) : subS [n] st = some [c] := by
  show (match st[n]? with
    | some c => match renC [n] c, subG [n] st [] with
      | some c', some cs => some (c' :: cs)
      | _, _ => none
    | none => none) = _
  rw [hn]
  show (match renC [n] c, some ([] : Sr) with
      | some c', some cs => some (c' :: cs)
      | _, _ => none) = _
  rw [hc.ren]
theorem callF_k {F : DF} {bs : List P} {q : P} {c c' : Ct} {η : Et} {st : Sr} {n : Nat} (hn : st[n]? = some c) (hc : KidC c) (hc' : KidC c') (h : F (.cell 0 :: bs.map D.fz) [c] = .ok (.fz q, [c'])) :
    callF F (.cell n :: bs.map D.fz) η st = .ok (.fz q, st.set n c') := by
  have ec : cellsA (D.cell n :: bs.map D.fz) = [n] := by
    show [n] ++ cellsA (bs.map D.fz) = [n]
    rw [cellsA_fz]; rfl
  unfold callF
  rw [ec, reach_k hn hc]
  unfold callI
  have er : renA [n] (D.cell n :: bs.map D.fz) = some (.cell 0 :: bs.map D.fz) := renA_c (as := [])
  rw [if_pos (nodup_one n), er, subS_k hn hc]
  show (match F (.cell 0 :: bs.map D.fz) [c] with
    | .ok (d, st2) => if [n].length ≤ st2.length then R.ok (bkD [n] st.length d, backS [n] st st2) else .stuck
    | .exc c fs _ st2 => if [n].length ≤ st2.length then .exc c fs η (backS [n] st st2) else .stuck
    | .stuck => .stuck) = _
  rw [h]
  show R.ok (D.fz q, putAll st [n] ([c'].map (bkC [n] st.length)) ++ []) = _
  rw [List.append_nil, List.map_cons, List.map_nil, hc'.bk]
  rfl
theorem frzFs_fz (st : Sr) : ∀ fs : List (Str × P), frzFs st (fzF fs) = some (fs, st)
  | [] => rfl
  | q :: r => by
    show frzFs st ((q.1, D.fz q.2) :: fzF r) = some (q :: r, st)
    unfold frzFs
    show (match frzFs st (fzF r) with | some (ps, st2) => some ((q.1, q.2) :: ps, st2) | none => none) = _
    rw [frzFs_fz st r]
theorem set_at_end {γ : Type} (l : List γ) (a b : γ) : (l ++ [a]).set l.length b = l ++ [b] := by
  rw [List.set_append_right _ _ (Nat.le_refl _), Nat.sub_self]; rfl
section
variable {L : Ow} {X : XP} {η : Et}
theorem own_frz {c : Ct} {st : Sr} (o : Own L st) : Own L (st ++ [c]) := o.more [c]
/-- a new object: its __init__ leaves the fields fs -/
theorem w_newO [Em τ] {c : Str} {F : DF} {as : List P} {ds : List D} {fs : List (Str × P)} {t : τ} (hd : ds = as.map D.fz) (ht : em t = .obj c fs) (h : F (.cell 0 :: as.map D.fz) [.obj c []] = .ok (.fz .non, [.obj c (fzF fs)])) :
    Wk L (Rs.ok t) (fun st => (callF F (.cell st.length :: ds) η (st ++ [.obj c []])).bind fun b => frzE st.length b) (PV fe fun _ => L) X := fun st o => by
  subst hd
  refine ⟨(fe t, st ++ [.frz (.obj c fs)]), ?_, rfl, own_frz o⟩
  have e1 : callF F (.cell st.length :: as.map D.fz) η (st ++ [.obj c []]) = .ok (.fz .non, st ++ [.obj c (fzF fs)]) := by
    rw [callF_k (c := .obj c []) (c' := .obj c (fzF fs)) (by rw [List.getElem?_append_right (Nat.le_refl _), Nat.sub_self]; rfl) (kid_obj c []) (kid_obj c fs) h, set_at_end]
  dsimp only
  rw [e1, bind_ok]
  have hat : (st ++ [Ct.obj c (fzF fs)])[st.length]? = some (.obj c (fzF fs)) := by rw [List.getElem?_append_right (Nat.le_refl _), Nat.sub_self]; rfl
  have e2 : frzO (st ++ [Ct.obj c (fzF fs)]) st.length = some (.obj c fs, st ++ [.frz (.obj c fs)]) := by
    unfold frzO
    rw [hat]
    dsimp only
    rw [frzFs_fz]
    dsimp only
    rw [hat]
    dsimp only
    rw [set_at_end]
  show (match frzO (st ++ [Ct.obj c (fzF fs)]) st.length with
    | some (p, st) => R.ok (D.fz p, st)
    | none => .stuck) = _
  rw [e2]
  show R.ok (D.fz (.obj c fs), _) = R.ok (fe t, _)
  rw [← ht]
  first | done | rfl
theorem w_new {c : Str} {F : DF} {fa : DA} {m : Rs γ} {Q : γ → D × Sr → Prop} (h : Wk L m (th (fa η) fun as st => (callF F (.cell st.length :: as) η (st ++ [.obj c []])).bind fun b => frzE st.length b) Q X) : Wk L m (dNew c F fa η) Q X := h
theorem ev_fld {f : DE} {fl : Str} {cs : List Str} {d d' : D} (V : Ev L (f η) d) (h : ∀ st, fldD fl cs st d = some d') : Ev L (dFld fl cs f η) d' := fun st o => by
  unfold dFld
  rw [V st o, bind_ok]
  dsimp only
  rw [h]
theorem w_methO {κ : Type} [Em κ] {nm : Str} {tab : List (Str × DF)} {f : DE} {fa : DA} {F : DF} {mv : Rs κ} {L' : Ow} {k : κ → Rs γ} {Q : γ → D × Sr → Prop} (V : Wk L mv (f η) (PV fe fun _ => L') X) (hF : ∀ (h : κ) st, ((clsM nm st (fe h)).bind fun c => look1 c tab) = some F) (hk : ∀ h, Wk L' (k h) (th (fa η) fun bs st => callF F (fe h :: bs) η st) Q X) : Wk L (mv.bind k) (dMeth nm tab f fa η) Q X := by
  refine w_th (wv (K := fun d st => match (clsM nm st d).bind fun c => look1 c tab with
    | some F => (fa η st).bind fun b => callF F (d :: b.1) η b.2
    | none => .stuck) V fun h => ?_) rfl
  refine (hk h).eqc (funext fun st => ?_)
  rw [hF h st]
  rfl
end
def lput (xs : List α) (k : Int) (v : α) : Rs (List α) := match ixN xs.length k with
  | some j => .ok (xs.set j v)
  | none => .stuck
def popN (xs : List α) (i : Int) : Rs (α × List α) := match seqIndex? i xs.length with
  | some k => (match xs[k]? with
    | some a => if -(2 ^ 63) ≤ i ∧ i < 2 ^ 63 then .ok (a, xs.eraseIdx k) else .stuck
    | none => .stuck)
  | none => .stuck
section
variable {L : Ow} {X : XP} {η : Et} {f h : DE} {y : DS} {i j : Nat} {Q : γ → Fl × Et × Sr → Prop} {mv : Rs δ}
theorem ws_lput [Em β] {n : Nat} {k : Int} {L' : δ → Ow} {rep : δ → D} {v : δ → β} {ys : δ → List β} {kk : δ → List β → Rs γ} (V : Wk L mv (f η) (PV rep L') X) (hv : η[i]? = some (some (.cell n))) (hi : ∀ g, Ev (L' g) (h η) (fe k))
    (hz : ∀ g, Fz (L' g) (rep g) (em (v g)) (L' g)) (h1 : ∀ g, ∃ kp, (L' g)[kp]? = some (n, .lst ((ys g).map em)) ∧ ∀ zs, Wk ((L' g).set kp (n, .lst (zs.map em))) (kk g zs) (y η) Q X) :
    Wk L (mv.bind fun g => (lput (ys g) k (v g)).bind (kk g)) (dSeq (dLPut f (dVar i) h) y η) Q X := fun st o => by
  have hV := V st o
  have e0 : ∀ r, f η st = r → dSeq (dLPut f (dVar i) h) y η st = (r.bind fun v => (dVar i η v.2).bind fun o => (h η o.2).bind fun i => (match o.1, i.1 with
    | .cell n, .fz (.int k) => (match toP i.2 v.1 with
      | some (q, st') => (match st'[n]? with
        | some (.lst xs) => (match ixN xs.length k with
          | some j => R.ok (Fl.nx, η, st'.set n (.lst (xs.set j q)))
          | none => .stuck)
        | _ => .stuck)
      | none => .stuck)
    | _, _ => .stuck)).bind fun r => match r.1 with
      | .nx => y r.2.1 r.2.2
      | .rt d => .ok (.rt d, r.2.1, r.2.2)
      | .bk => .ok (.bk, r.2.1, r.2.2)
      | .ct => .ok (.ct, r.2.1, r.2.2) := fun r hr => by
    unfold dSeq dLPut
    rw [hr] <;> rfl
  cases mv with
  | stuck => trivial
  | exc cl fs =>
    obtain ⟨e, st', h1, h2⟩ := hV
    exact ⟨e, st', by rw [e0 _ h1]; rfl, h2⟩
  | ok g =>
    obtain ⟨⟨b, st'⟩, e1, e2, e3⟩ := hV
    have e2' : b = rep g := e2
    subst e2'
    have e8 := e0 _ e1
    rw [bind_ok] at e8
    dsimp only at e8
    rw [e_var hv, bind_ok] at e8
    dsimp only at e8
    rw [hi g st' e3, bind_ok] at e8
    obtain ⟨st2, e4, e5⟩ := hz g st' e3
    dsimp only at e8
    obtain ⟨kp, h2, h3⟩ := h1 g
    show (match (lput (ys g) k (v g)).bind (kk g) with | .ok g => _ | .exc cl fs => _ | .stuck => True)
    unfold lput
    cases ej : ixN (ys g).length k with
    | none => trivial
    | some j =>
      dsimp only
      rw [ok_bind]
      have e9 : (match D.cell n, (fe k : D) with
        | .cell n, .fz (.int k) => (match toP st' (rep g) with
          | some (q, st') => (match st'[n]? with
            | some (.lst xs) => (match ixN xs.length k with
              | some j => R.ok (Fl.nx, η, st'.set n (.lst (xs.set j q)))
              | none => .stuck)
            | _ => .stuck)
          | none => .stuck)
        | _, _ => .stuck) = R.ok (Fl.nx, η, st2.set n (.lst (((ys g).set j (v g)).map em))) := by
        show (match toP st' (rep g) with
          | some (q, st') => (match st'[n]? with
            | some (.lst xs) => (match ixN xs.length k with
              | some j => R.ok (Fl.nx, η, st'.set n (.lst (xs.set j q)))
              | none => .stuck)
            | _ => .stuck)
          | none => .stuck) = _
        rw [e4]
        dsimp only
        rw [e5.get kp h2]
        dsimp only
        rw [List.length_map, ej]
        dsimp only
        rw [List.map_set]
      rw [e9, bind_ok] at e8
      have e7 := h3 ((ys g).set j (v g)) _ (e5.set h2 (.lst (((ys g).set j (v g)).map em)))
      dsimp only at e8
      rw [← e8] at e7
      exact e7
end
end N
end
section
set_option Elab.async false
set_option linter.all false
set_option maxRecDepth 100000
set_option maxHeartbeats 0
namespace N
open PySem L2 M
variable {α β γ δ σ ρ τ κ J : Type}
section
variable {L : Ow} {X : XP} {η : Et} {f : DE} {y : DS} {i j : Nat} {Q : γ → Fl × Et × Sr → Prop} {mv : Rs δ}
theorem erase_map {α β : Type} (g : α → β) : ∀ (l : List α) (k : Nat), (l.map g).eraseIdx k = (l.eraseIdx k).map g
  | [], _ => rfl
  | x :: l, 0 => rfl
  | x :: l, k + 1 => by
    show g x :: (l.map g).eraseIdx k = g x :: (l.eraseIdx k).map g
    rw [erase_map g l k]
end
section
variable {L : Ow} {X : XP} {d : D}
theorem intsP_em : ∀ xs : List Int, intsP (xs.map em) = some xs
  | [] => rfl
  | x :: xs => by
    show (match intsP (xs.map em) with | some l => some (x :: l) | none => none) = _
    rw [intsP_em xs]
theorem ev_allO {xs : List Bool} (h : Pk L d (em xs)) : Ev L (allO [d]) (fe (xs.all id)) := fun st o => by
  unfold allO
  dsimp only
  rw [h st o]
  show (match boolsP (xs.map P.bl) with | some bs => R.ok (D.fz (.bl (bs.all id)), st) | none => .stuck) = _
  rw [boolsP_map]; rfl
end
section
variable {L : Ow} {X : XP} {η : Et} {t : DT} {f fs : DE} {fa : DA} {ts : List Nat}
theorem lcT_walk [Em β] {h : α → P} {η1 : α → Et} {mt : α → Rs Bool} {mf : α → Rs β} (hs : ∀ x, setT ts η (h x) = some (η1 x)) (ht : ∀ x, Wk L (mt x) (t (η1 x)) (PV id fun _ => L) XT) (hf : ∀ x, Wk L (mf x) (f (η1 x)) (PV fe fun _ => L) XT) :
    ∀ (xs : List α) (acc : List β), Wk L (lcN mt mf xs acc) (lcT ts t f η (xs.map h) (acc.map em)) (fun ys a => a.1 = ys.map em ∧ Own L a.2) XT
  | [], acc => fun st o => ⟨_, rfl, rfl, o⟩
  | x :: xs, acc => by
    refine w_th (wv (K := fun b st => if b = true then (f (η1 x) st).bind fun b => match toP b.2 b.1 with
      | some (p, st2) => if (acc.map em).length < szL then lcT ts t f η (xs.map h) (acc.map em ++ [p]) st2 else .stuck
      | none => .stuck
    else lcT ts t f η (xs.map h) (acc.map em) st) (ht x) fun b => ?_) (by
      funext st
      rw [List.map_cons]
      conv => lhs; unfold lcT
      rw [hs x]
      rfl)
    cases b
    · exact lcT_walk hs ht hf xs acc
    · show Wk L ((mf x).bind _) _ _ _
      refine w_th (wv (K := fun d st => match toP st d with
        | some (p, st2) => if (acc.map em).length < szL then lcT ts t f η (xs.map h) (acc.map em ++ [p]) st2 else .stuck
        | none => .stuck) (hf x) fun y => ?_) rfl
      by_cases hl : acc.length < 16777216
      · rw [if_pos hl]
        refine (lcT_walk hs ht hf xs (acc ++ [y])).eqc (funext fun st => ?_)
        rw [List.map_append]
        exact if_pos (by rw [List.length_map]; exact hl)
      · rw [if_neg hl]; exact w_stuck
theorem yes_okT {x : α} {η1 : Et} : Wk L (yes x) (dYes η1) (PV id fun _ => L) XT := fun st o => ⟨(true, st), rfl, rfl, o⟩
theorem lcTZ_walk [Em β] {h : α → P} {η1 : α → Et} {mt : α → Rs Bool} {mf : α → Rs β} (hs : ∀ x, setT ts η (h x) = some (η1 x)) (ht : ∀ x, Wk L (mt x) (t (η1 x)) (PV id fun _ => L) XT) (hf : ∀ x, Wk L (mf x) (f (η1 x)) (PV fe fun _ => L) XT) (xs : List α) :
    Wk L (calm (lcN mt mf xs [])) (fun st => lcZ (lcT ts t f η (xs.map h) [] st)) (PV fe fun _ => L) X := fun st o => by
  have h1 := lcT_walk hs ht hf xs [] st o
  cases e : lcN mt mf xs [] with
  | stuck => trivial
  | exc c fs => trivial
  | ok ys =>
    rw [e] at h1
    obtain ⟨⟨zs, st'⟩, h2, h3, h4⟩ := h1
    have h3' : zs = ys.map em := h3
    subst h3'
    have h2' : lcT ts t f η (xs.map h) [] st = .ok (ys.map em, st') := h2
    exact ⟨(fe ys, st'), by show lcZ (lcT ts t f η (xs.map h) [] st) = _; rw [h2']; rfl, rfl, h4⟩
theorem w_lcE [Em α] {m : Rs γ} {Q : γ → D × Sr → Prop} {L2 : Ow} {d : D} {xs : List α} (V : Ev L (fa η) [d]) (S : Fz L d (em xs) L2) (B : Wk L2 m (fun st => lcZ (lcT ts t f η ((enm 0 xs).map em) [] st)) Q X) : Wk L m (dLcE fa ts t f η) Q X := fun st o => by
  obtain ⟨st', h1, h2⟩ := S st o
  have h := B st' h2
  have e : dLcE fa ts t f η st = lcZ (lcT ts t f η ((enm 0 xs).map em) [] st') := by
    unfold dLcE
    rw [V st o, bind_ok]
    dsimp only
    rw [h1]
    show lcZ (lcT ts t f η (enumP 0 (xs.map em)) [] st') = _
    rw [enm_map]; rfl
  dsimp only at h
  rw [← e] at h
  exact h
end
end N
end
section
set_option Elab.async false
set_option linter.all false
set_option maxRecDepth 100000
set_option maxHeartbeats 0
namespace N
open PySem L2 M
end N
end
section
set_option Elab.async false
set_option linter.all false
set_option maxRecDepth 100000
set_option maxHeartbeats 0
namespace N
open PySem L2 M
variable {α β γ δ σ : Type}
section
variable {L : Ow} {X : XP} {η : Et} {d e : D}
theorem calm_ok0 {x : δ} : calm (Rs.ok x) = Rs.ok x := rfl
theorem w_lenX {tab : List (Str × DF)} {F : DF} {m : Rs Int} (hs : ∀ st, clsF tab st d = some F) (h : Wk L m (fun st => callF F [d] [] st) (PV fe fun _ => L) XT) : Wk L ((calm m).bind fun n => if smallI 1000000000 n = true ∧ 0 ≤ n then Rs.ok n else .stuck) (lenX tab [d]) (PV fe fun _ => L) X := fun st o => by
  have h := h st o
  cases m with
  | stuck => trivial
  | exc c fs => trivial
  | ok n =>
    obtain ⟨⟨r, st'⟩, h1, h2, h3⟩ := h
    cases h2
    rw [calm_ok0, ok_bind]
    by_cases hn : smallI 1000000000 n = true ∧ 0 ≤ n
    · rw [if_pos hn]
      refine ⟨(fe n, st'), ?_, rfl, h3⟩
      unfold lenX callZ
      dsimp only
      rw [hs st]
      dsimp only
      have h1 : callF F [d] [] st = .ok (fe n, st') := h1
      rw [h1]
      refine if_pos ⟨hn.2, ?_⟩
      have := small_iff.mp hn.1
      have h2 : (1000000000 : Int) < 2 ^ 62 := by decide
      have h4 : n ≤ 1000000000 := this.2
      exact Int.lt_of_le_of_lt h4 h2
    · rw [if_neg hn]; trivial
def popE (xs : List α) : Rs (α × List α) := match xs.getLast? with
  | some a => .ok (a, xs.dropLast)
  | none => .stuck
theorem w_popE [Em α] {n kp i : Nat} {xs : List α} {L' : α × List α → Ow} (hv : η[i]? = some (some (.cell n))) (h0 : L[kp]? = some (n, .lst (xs.map em))) (hL : ∀ g, L' g = L.set kp (n, .lst (g.2.map em))) : Wk L (popE xs) (dBM isLst popO (dVar i) dNil η) (PV (fun g => fe g.1) L') X := fun st o => by
  have hi : isLst st (.cell n) = true := isLst_at (o.get kp h0)
  have e0 : dBM isLst popO (dVar i) dNil η st = popO (.cell n) [] st := by
    unfold dBM
    rw [e_var hv, bind_ok]
    dsimp only
    rw [if_pos hi]
    first | done | rfl
  unfold popE
  cases e1 : xs.getLast? with
  | none => trivial
  | some a =>
    refine ⟨(fe a, st.set n (.lst (xs.dropLast.map em))), ?_, rfl, by rw [hL]; exact o.set h0 _⟩
    rw [e0]
    show (match st[n]? with
      | some (.lst xs) => match xs[xs.length - 1]? with
        | some p => R.ok (D.fz p, st.set n (.lst xs.dropLast))
        | none => .stuck
      | _ => .stuck) = _
    rw [o.get kp h0]
    dsimp only
    have e2 : (xs.map (em : α → P))[(xs.map (em : α → P)).length - 1]? = some (em a) := by
      rw [← List.getLast?_eq_getElem?, List.getLast?_map, e1]; rfl
    rw [e2, ← List.map_dropLast] <;> rfl
theorem w_popK [Em α] {n kp i : Nat} {xs : List α} {z : Int} {f : DE} {L' : α × List α → Ow} (hf : Ev L (f η) (fe z)) (hv : η[i]? = some (some (.cell n))) (h0 : L[kp]? = some (n, .lst (xs.map em))) (hL : ∀ g, L' g = L.set kp (n, .lst (g.2.map em))) : Wk L (popN xs z) (dBM isLst popO (dVar i) (dCons f dNil) η) (PV (fun g => fe g.1) L') X := fun st o => by
  have hi : isLst st (.cell n) = true := isLst_at (o.get kp h0)
  have e0 : dBM isLst popO (dVar i) (dCons f dNil) η st = popO (.cell n) [fe z] st := by
    unfold dBM
    rw [e_var hv, bind_ok]
    dsimp only
    rw [if_pos hi]
    unfold dCons dNil
    rw [hf st o]
    first | done | rfl
  unfold popN
  cases e4 : seqIndex? z xs.length with
  | none => trivial
  | some k =>
    dsimp only
    cases e5 : xs[k]? with
    | none => trivial
    | some a =>
      dsimp only
      by_cases hz : -(2 ^ 63) ≤ z ∧ z < 2 ^ 63
      · rw [if_pos hz]
        refine ⟨(fe a, st.set n (.lst ((xs.eraseIdx k).map em))), ?_, rfl, by rw [hL]; exact o.set h0 _⟩
        rw [e0]
        show (match st[n]? with
          | some (.lst xs) => match seqIndex? z xs.length with
            | some k => match xs[k]? with
              | some p => if -(2 ^ 63) ≤ z ∧ z < 2 ^ 63 then R.ok (D.fz p, st.set n (.lst (xs.eraseIdx k))) else .stuck
              | none => .stuck
            | none => .stuck
          | _ => .stuck) = _
        rw [o.get kp h0]
        dsimp only
        rw [List.length_map, e4]
        dsimp only
        rw [List.getElem?_map, e5]
        dsimp only [Option.map_some]
        rw [if_pos hz, erase_map] <;> rfl
      · rw [if_neg hz]; trivial
theorem w_popX [Em α] {ρ : Type} {n kp i : Nat} {f : DE} {mv : Rs δ} {L1 : δ → Ow} {ix : δ → Int} {ys : δ → List α} {mk : δ → α × List α → ρ} {rep : ρ → D} {L2 : ρ → Ow} {x0 : List P} (V : Wk L mv (f η) (PV (fun g => fe (ix g)) L1) X) (hv : η[i]? = some (some (.cell n))) (h0 : L[kp]? = some (n, .lst x0)) (h1 : ∀ g, (L1 g)[kp]? = some (n, .lst ((ys g).map em))) (hr : ∀ g r, rep (mk g r) = fe r.1) (hL : ∀ g r, L2 (mk g r) = (L1 g).set kp (n, .lst (r.2.map em))) :
    Wk L (mv.bind fun g => (popN (ys g) (ix g)).bind fun r => Rs.ok (mk g r)) (dBM isLst popO (dVar i) (dCons f dNil) η) (PV rep L2) X := fun st o => by
  have h := V st o
  have hi : isLst st (.cell n) = true := isLst_at (o.get kp h0)
  have e0 : ∀ r, f η st = r → dBM isLst popO (dVar i) (dCons f dNil) η st = (r.bind fun a => popO (.cell n) [a.1] a.2) := fun r hr => by
    unfold dBM
    rw [e_var hv, bind_ok]
    dsimp only
    rw [if_pos hi]
    unfold dCons dNil
    rw [hr]
    cases r <;> rfl
  cases mv with
  | stuck => trivial
  | exc cl fs =>
    obtain ⟨e, st', h1, h2⟩ := h
    exact ⟨e, st', (e0 _ h1), h2⟩
  | ok g =>
    obtain ⟨⟨b, st'⟩, e1, e2, e3⟩ := h
    cases e2
    rw [ok_bind]
    unfold popN
    cases e4 : seqIndex? (ix g) (ys g).length with
    | none => trivial
    | some k =>
      dsimp only
      cases e5 : (ys g)[k]? with
      | none => trivial
      | some a =>
        dsimp only
        by_cases hz : -(2 ^ 63) ≤ ix g ∧ ix g < 2 ^ 63
        · rw [if_pos hz, ok_bind]
          refine ⟨(fe a, st'.set n (.lst (((ys g).eraseIdx k).map em))), ?_, (hr g (a, (ys g).eraseIdx k)).symm, by rw [hL]; exact e3.set (h1 g) _⟩
          rw [e0 _ e1, bind_ok]
          dsimp only
          show (match st'[n]? with
            | some (.lst xs) => match seqIndex? (ix g) xs.length with
              | some k => match xs[k]? with
                | some p => if -(2 ^ 63) ≤ ix g ∧ ix g < 2 ^ 63 then R.ok (D.fz p, st'.set n (.lst (xs.eraseIdx k))) else .stuck
                | none => .stuck
              | none => .stuck
            | _ => .stuck) = _
          rw [e3.get kp (h1 g)]
          dsimp only
          rw [List.length_map, e4]
          dsimp only
          rw [List.getElem?_map, e5]
          dsimp only [Option.map_some]
          rw [if_pos hz, erase_map] <;> rfl
        · rw [if_neg hz]; trivial
variable {r n : Nat} {ns : List Nat} {y : DS}
end
end N
end
section
set_option Elab.async false
set_option linter.all false
set_option maxRecDepth 100000
set_option maxHeartbeats 0
namespace N
open PySem L2 M
end N
end
section
set_option Elab.async false
set_option linter.all false
set_option maxRecDepth 100000
set_option maxHeartbeats 0
namespace N
open PySem L2 M
end N
end
section
set_option Elab.async false
set_option linter.all false
set_option maxRecDepth 100000
set_option maxHeartbeats 0
namespace N
open PySem L2 M
end N
end
section
set_option Elab.async false
set_option linter.all false
set_option maxRecDepth 100000
set_option maxHeartbeats 0
namespace N
open PySem L2 M
end N
end
section
set_option Elab.async false
set_option linter.all false
set_option maxRecDepth 100000
set_option maxHeartbeats 0
namespace N
open PySem L2 M
end N
end
section
set_option Elab.async false
set_option linter.all false
set_option maxRecDepth 100000
set_option maxHeartbeats 0
namespace N
open PySem L2 M
end N
end
section
set_option Elab.async false
set_option linter.all false
set_option maxRecDepth 100000
set_option maxHeartbeats 0
namespace N
open PySem L2 M
end N
end
section
set_option Elab.async false
set_option linter.all false
set_option maxRecDepth 100000
set_option maxHeartbeats 0
namespace N
open PySem L2 M
end N
end
section
set_option Elab.async false
set_option linter.all false
set_option maxRecDepth 100000
set_option maxHeartbeats 0
namespace N
open PySem L2 M
variable {α β γ δ σ : Type}
theorem Own.modG {L : Ow} {st st' : Sr} {k n : Nat} {t t' : Tr} (h : Own L st) (hk : L[k]? = some (n, t)) (hb : ∀ r, t' ≠ .base r)
    (hm : ∀ ids, At st t (.cell n) ids → ids.Nodup → ∃ js, At st' t' (.cell n) js ∧ js.Nodup ∧ (∀ i ∈ js, i ∈ ids ∨ st.length ≤ i) ∧ (noBase L = true ∨ ∀ i ∈ ids, i ∈ js) ∧ ∀ i, i < st.length → i ∉ ids → st'[i]? = st[i]?) : Own (L.set k (n, t')) st' := by
  obtain ⟨w, h⟩ := h
  have hkl := (List.getElem?_eq_some_iff.mp hk).1
  have hkw : k < w.length := by rw [h.len]; exact hkl
  have hw := List.getElem?_eq_getElem hkw
  have ha := h.at_ k n t _ hk hw
  obtain ⟨nd1, nd2⟩ := nodup_flatW.mp h.nd
  obtain ⟨js, h1, h2, h3, h4, h5⟩ := hm _ ha (nd1 _ (List.mem_of_getElem? hw))
  have old : ∀ (j : Nat) ids, w[j]? = some ids → k ≠ j → ∀ i ∈ ids, i < st.length ∧ i ∉ w[k] := fun j ids hj q i hi => by
    have hjl := (List.getElem?_eq_some_iff.mp hj).1
    rw [h.len] at hjl
    exact ⟨(h.at_ j _ _ ids (List.getElem?_eq_getElem hjl) hj).lt i hi, fun z => q (w_uniq h.nd hw hj z hi)⟩
  refine ⟨w.set k js, by rw [List.length_set, List.length_set]; exact h.len, ?_, fun j m s ids hj hj2 => ?_, fun m r e i hi => ?_⟩
  · rw [nodup_flatW]
    refine ⟨fun l hl => ?_, List.pairwise_iff_getElem.mpr fun i j hi hj hij => ?_⟩
    · obtain ⟨j, hj⟩ := List.getElem?_of_mem hl
      by_cases q : k = j
      · subst q
        rw [List.getElem?_set_self hkw] at hj
        cases hj; exact h2
      · rw [List.getElem?_set_ne q] at hj
        exact nd1 _ (List.mem_of_getElem? hj)
    · rw [List.length_set] at hi hj
      intro x hx hy
      rw [List.getElem_set] at hx hy
      by_cases q : k = i
      · rw [if_pos q] at hx
        rw [if_neg (by omega)] at hy
        obtain ⟨o1, o2⟩ := old j _ (List.getElem?_eq_getElem hj) (by omega) x hy
        rcases h3 x hx with z | z
        · exact o2 z
        · omega
      · rw [if_neg q] at hx
        by_cases q2 : k = j
        · rw [if_pos q2] at hy
          obtain ⟨o1, o2⟩ := old i _ (List.getElem?_eq_getElem hi) q x hx
          rcases h3 x hy with z | z
          · exact o2 z
          · omega
        · rw [if_neg q2] at hy
          exact Nat.ne_of_lt hij (w_uniq h.nd (List.getElem?_eq_getElem hi) (List.getElem?_eq_getElem hj) hx hy)
  · by_cases q : k = j
    · subst q
      rw [List.getElem?_set_self hkl] at hj
      rw [List.getElem?_set_self hkw] at hj2
      cases hj
      cases hj2
      exact h1
    · rw [List.getElem?_set_ne q] at hj hj2
      refine (h.at_ j m s ids hj hj2).frame fun i hi => ?_
      obtain ⟨o1, o2⟩ := old j ids hj2 q i hi
      exact h5 i o1 o2
  · have e' : L[0]? = some (m, .base r) := by
      by_cases q : k = 0
      · subst q
        rw [List.getElem?_set_self hkl] at e
        cases e
        exact absurd rfl (hb r)
      · rwa [List.getElem?_set_ne q] at e
    have h4 : ∀ i ∈ w[k], i ∈ js := by
      rcases h4 with z | z
      · exfalso
        cases L with
        | nil => cases e'
        | cons x L => cases e'; cases z
      · exact z
    have := h.cov m r e' i hi
    obtain ⟨l, hl, hil⟩ := List.mem_flatten.mp this
    obtain ⟨j, hj⟩ := List.getElem?_of_mem hl
    have hjr : j < r + 1 := by
      have := (List.getElem?_eq_some_iff.mp hj).1
      rw [List.length_take] at this; omega
    rw [List.getElem?_take_of_lt hjr] at hj
    refine List.mem_flatten.mpr ?_
    by_cases q : k = j
    · subst q
      rw [hw] at hj
      cases hj
      exact ⟨js, List.mem_of_getElem? (i := k) (by rw [List.getElem?_take_of_lt hjr, List.getElem?_set_self hkw]), h4 i hil⟩
    · exact ⟨l, List.mem_of_getElem? (i := j) (by rw [List.getElem?_take_of_lt hjr, List.getElem?_set_ne q]; exact hj), hil⟩
theorem Own.mod {L : Ow} {st st' : Sr} {k n : Nat} {t t' : Tr} (h : Own L st) (hk : L[k]? = some (n, t)) (hb : ∀ r, t' ≠ .base r)
    (hm : ∀ ids, At st t (.cell n) ids → ids.Nodup → ∃ js, At st' t' (.cell n) js ∧ js.Nodup ∧ (∀ i ∈ js, i ∈ ids ∨ st.length ≤ i) ∧ (∀ i ∈ ids, i ∈ js) ∧ ∀ i, i < st.length → i ∉ ids → st'[i]? = st[i]?) : Own (L.set k (n, t')) st' :=
  h.modG hk hb fun ids a nd => let ⟨js, h1, h2, h3, h4, h5⟩ := hm ids a nd; ⟨js, h1, h2, h3, .inr h4, h5⟩
structure Pz where
  a : Int
  b : Int
  c : List Int
instance : Em Pz := ⟨fun p => .lst [.int p.a, .int p.b, .lst (p.c.map em)]⟩
end N
end
section
set_option Elab.async false
set_option linter.all false
set_option maxRecDepth 100000
set_option maxHeartbeats 0
namespace N
open PySem L2 M
variable {α β γ δ σ : Type}
section
variable {L : Ow} {X : XP} {η : Et} {y : DS} {r n kp : Nat} {c f : Str} {cs : List Str} {fs : List (Str × Tr)}
/-- a new object that stays a cell -/
def PO (c : Str) (fsOf : γ → List (Str × Tr)) (L' : γ → Ow) : γ → (D × Sr) → Prop := fun g a => ∃ n, a.1 = .cell n ∧ Own (L' g ++ [(n, .obj c (fsOf g))]) a.2
end
end N
end
section
set_option Elab.async false
set_option linter.all false
set_option maxRecDepth 100000
set_option maxHeartbeats 0
namespace N
open PySem L2 M
end N
end
section
set_option Elab.async false
set_option linter.all false
set_option maxRecDepth 100000
set_option maxHeartbeats 0
namespace N
open PySem L2 M
def sortSetN (xs : List Int) : Rs (List Int) := if xs.length < 64 then .ok (Kd.setI xs) else .stuck
end N
end
section
set_option Elab.async false
set_option linter.all false
set_option maxRecDepth 100000
set_option maxHeartbeats 0
namespace N
open PySem L2 M
variable {τ : Type}
section
variable {L : Ow} {X : XP} {η : Et}
theorem w_newLs [Em τ] {c f : Str} {F : DF} {as xs : List P} {ds : List D} {t : τ} (hd : ds = as.map D.fz) (ht : em t = .obj c [(f, .lst xs)]) (h : F (.cell 0 :: as.map D.fz) [.obj c []] = .ok (.fz .non, [.obj c [(f, .cell 1)], .lst xs])) :
    Wk L (Rs.ok t) (fun st => (callF F (.cell st.length :: ds) η (st ++ [.obj c []])).bind fun b => frzE st.length b) (PV fe fun _ => L) X := fun st o => by
  subst hd
  refine ⟨(fe t, st ++ [.frz (.obj c [(f, .lst xs)]), .frz (.lst xs)]), ?_, rfl, o.more _⟩
  have hn : (st ++ [Ct.obj c []])[st.length]? = some (.obj c []) := by rw [List.getElem?_append_right (Nat.le_refl _), Nat.sub_self]; rfl
  have e1 : callF F (.cell st.length :: as.map D.fz) η (st ++ [.obj c []]) = .ok (.fz .non, st ++ [.obj c [(f, .cell (st.length + 1))], .lst xs]) := by
    have ec : cellsA (D.cell st.length :: as.map D.fz) = [st.length] := by
      show [st.length] ++ cellsA (as.map D.fz) = [st.length]
      rw [cellsA_fz]; rfl
    unfold callF
    rw [ec, reach_k hn (kid_obj c [])]
    unfold callI
    have er : renA [st.length] (D.cell st.length :: as.map D.fz) = some (.cell 0 :: as.map D.fz) := renA_c (as := [])
    rw [if_pos (nodup_one st.length), er, subS_k hn (kid_obj c [])]
    dsimp only
    rw [h]
    dsimp only
    rw [if_pos (show [st.length].length ≤ [Ct.obj c [(f, .cell 1)], .lst xs].length by simp)]
    show R.ok (D.fz .non, ((st ++ [Ct.obj c []]).set st.length (.obj c [(f, .cell ((st ++ [Ct.obj c []]).length + (1 - 1)))])) ++ [Ct.lst xs]) = _
    rw [set_at_end]
    simp
  dsimp only
  rw [e1, bind_ok]
  have h1 : (st ++ [Ct.obj c [(f, .cell (st.length + 1))], .lst xs])[st.length]? = some (.obj c [(f, .cell (st.length + 1))]) := by rw [List.getElem?_append_right (Nat.le_refl _), Nat.sub_self]; rfl
  have h2 : (st ++ [Ct.obj c [(f, .cell (st.length + 1))], .lst xs])[st.length + 1]? = some (.lst xs) := by rw [List.getElem?_append_right (by omega)]; simp
  have s1 : (st ++ [Ct.obj c [(f, .cell (st.length + 1))], .lst xs]).set (st.length + 1) (.frz (.lst xs)) = st ++ [Ct.obj c [(f, .cell (st.length + 1))], .frz (.lst xs)] := by
    rw [List.set_append_right _ _ (by omega)]; simp
  have s2 : (st ++ [Ct.obj c [(f, .cell (st.length + 1))], .frz (.lst xs)]).set st.length (.frz (.obj c [(f, .lst xs)])) = st ++ [.frz (.obj c [(f, .lst xs)]), .frz (.lst xs)] := by
    rw [List.set_append_right _ _ (by omega)]; simp
  have h3 : (st ++ [Ct.obj c [(f, .cell (st.length + 1))], .frz (.lst xs)])[st.length]? = some (.obj c [(f, .cell (st.length + 1))]) := by rw [List.getElem?_append_right (Nat.le_refl _), Nat.sub_self]; rfl
  have e2 : frzO (st ++ [Ct.obj c [(f, .cell (st.length + 1))], .lst xs]) st.length = some (.obj c [(f, .lst xs)], st ++ [.frz (.obj c [(f, .lst xs)]), .frz (.lst xs)]) := by
    unfold frzO
    rw [h1]
    dsimp only
    have e3 : frzFs (st ++ [Ct.obj c [(f, .cell (st.length + 1))], .lst xs]) [(f, .cell (st.length + 1))] = some ([(f, .lst xs)], st ++ [Ct.obj c [(f, .cell (st.length + 1))], .frz (.lst xs)]) := by
      unfold frzFs toP
      dsimp only
      rw [h2]
      dsimp only
      rw [s1]
      rfl
    rw [e3]
    dsimp only
    rw [h3]
    dsimp only
    rw [s2]
  show (match frzO (st ++ [Ct.obj c [(f, .cell (st.length + 1))], .lst xs]) st.length with
    | some (p, st) => R.ok (D.fz p, st)
    | none => .stuck) = _
  rw [e2]
  show R.ok (D.fz (.obj c [(f, .lst xs)]), _) = R.ok (fe t, _)
  rw [← ht]
  first | done | rfl
end
end N
end
section
set_option Elab.async false
set_option linter.all false
set_option maxRecDepth 100000
set_option maxHeartbeats 0
namespace N
open PySem L2 M
variable {α β γ δ σ ρ τ κ J : Type}
def idxLN (xs : List Int) (v : Int) : Rs Int := match idxO xs v with
  | some k => .ok (k : Nat)
  | none => .stuck
def insN (xs : List α) (k : Int) (v : α) : Rs (List α) := if xs.length < 16777216 ∧ 0 ≤ k ∧ k ≤ 1000000 then .ok (xs.take k.toNat ++ v :: xs.drop k.toNat) else .stuck
theorem intsPL_em : ∀ xs : List Int, intsPL (xs.map em) = some xs
  | [] => rfl
  | x :: xs => by
    show intsPL (P.int x :: xs.map em) = _
    unfold intsPL
    rw [intsPL_em xs]; rfl
section
variable {L : Ow} {X : XP} {η : Et} {d : D} {i : Int} {f g : DE}
theorem w_lrgN : Wk L (lrg i) (rgO (fe i)) (PC (fun xs : List Int => Ct.lst (xs.map em)) fun _ => L) X := fun st o => by
  unfold lrg
  by_cases h : 0 ≤ i ∧ i ≤ 16777216
  · rw [if_pos h]
    refine ⟨(.cell st.length, st ++ [.lst ((rng 0 i.toNat).map em)]), ?_, st.length, rfl, o.new _⟩
    show (if 0 ≤ i ∧ i ≤ 16777216 then R.ok (D.cell st.length, st ++ [Ct.lst (rangeP 0 i.toNat)]) else .stuck) = _
    rw [if_pos h, rng_map]
  · rw [if_neg h]; trivial
theorem w_indexL {xs : List Int} {v : Int} (hf : Ev L (f η) d) (hp : Pk L d (em xs)) (hv : Ev L (g η) (fe v)) : Wk L (idxLN xs v) (dBM isLst indexLO f (dCons g dNil) η) (PV fe fun _ => L) X := fun st o => by
  unfold idxLN
  cases e : idxO xs v with
  | none => trivial
  | some k =>
    refine ⟨(fe ((k : Nat) : Int), st), ?_, rfl, o⟩
    have ht : isLst st d = true := by unfold isLst; rw [hp st o]; rfl
    refine e_bm (hf st o) ht (e_cons (hv st o) e_nil) ?_
    unfold indexLO
    rw [hp st o]
    show (match intsPL (xs.map em) with | some ys => (match idxO ys v with | some j => R.ok (D.fz (.int (j : Nat)), st) | none => .stuck) | none => .stuck) = _
    rw [intsPL_em]
    dsimp only
    rw [e]
    rfl
theorem ws_insert [Em β] {n kp i : Nat} {fk fv : DE} {y : DS} {mv : Rs δ} {L' : δ → Ow} {ix : δ → Int} {v : δ → β} {ys : δ → List β} {kk : δ → List β → Rs γ} {x0 : List P} {Q : γ → Fl × Et × Sr → Prop} (V : Wk L mv (fk η) (PV (fun g => fe (ix g)) L') X) (hv : η[i]? = some (some (.cell n))) (h0 : L[kp]? = some (n, .lst x0))
    (hz : ∀ g, Ev (L' g) (fv η) (fe (v g))) (h1 : ∀ g, (L' g)[kp]? = some (n, .lst ((ys g).map em))) (hk : ∀ g zs, Wk ((L' g).set kp (n, .lst (zs.map em))) (kk g zs) (y η) Q X) :
    Wk L (mv.bind fun g => (insN (ys g) (ix g) (v g)).bind (kk g)) (dSeq (dEx (dBM isLst insertO (dVar i) (dCons fk (dCons fv dNil)))) y η) Q X := fun st o => by
  have h := V st o
  have hi : isLst st (.cell n) = true := isLst_at (o.get kp h0)
  have e0 : ∀ r, fk η st = r → dSeq (dEx (dBM isLst insertO (dVar i) (dCons fk (dCons fv dNil)))) y η st = (r.bind fun a => (fv η a.2).bind fun c => (insertO (.cell n) [a.1, c.1] c.2).bind fun b => y η b.2) := fun r hr => by
    unfold dSeq dEx dBM
    rw [e_var hv, bind_ok]
    dsimp only
    rw [if_pos hi]
    unfold dCons dNil
    rw [hr]
    cases r with
    | ok a =>
      simp only [bind_ok]
      cases fv η a.2 with
      | ok c => simp only [bind_ok]; cases insertO (.cell n) [a.1, c.1] c.2 <;> rfl
      | exc c fs e s => rfl
      | stuck => rfl
    | exc c fs e s => rfl
    | stuck => rfl
  cases mv with
  | stuck => trivial
  | exc cl fs =>
    obtain ⟨e, st', h1, h2⟩ := h
    exact ⟨e, st', (e0 _ h1), h2⟩
  | ok g =>
    obtain ⟨⟨b, st'⟩, e1, e2, e3⟩ := h
    cases e2
    show (match (insN (ys g) (ix g) (v g)).bind (kk g) with | .ok g => _ | .exc cl fs => _ | .stuck => True)
    unfold insN
    by_cases hl : (ys g).length < 16777216 ∧ 0 ≤ ix g ∧ ix g ≤ 1000000
    · rw [if_pos hl, ok_bind]
      have e6 : insertO (.cell n) [fe (ix g), fe (v g)] st' = .ok (.fz .non, st'.set n (.lst (((ys g).take (ix g).toNat ++ v g :: (ys g).drop (ix g).toNat).map em))) := by
        show (match st'[n]? with
          | some (.lst xs) => if xs.length < szL ∧ 0 ≤ ix g ∧ ix g < 2 ^ 63 then R.ok (D.fz .non, st'.set n (.lst (xs.take (ix g).toNat ++ em (v g) :: xs.drop (ix g).toNat))) else .stuck
          | _ => .stuck) = _
        rw [e3.get kp (h1 g)]; dsimp only
        rw [if_pos ⟨by rw [List.length_map]; exact hl.1, hl.2.1, by have := hl.2.2; omega⟩, List.map_append, List.map_cons, List.map_take, List.map_drop]
      have e7 := hk g ((ys g).take (ix g).toNat ++ v g :: (ys g).drop (ix g).toNat) _ (e3.set (h1 g) (.lst (((ys g).take (ix g).toNat ++ v g :: (ys g).drop (ix g).toNat).map em)))
      have e8 := e0 _ e1
      rw [bind_ok] at e8
      dsimp only at e8
      rw [hz g st' e3, bind_ok] at e8
      dsimp only at e8
      rw [e6, bind_ok] at e8
      rw [← e8] at e7
      exact e7
    · rw [if_neg hl]; trivial
end
section
variable {L : Ow} {X : XP} {η : Et} {t : DT} {f fs : DE} {i n kp : Nat}
theorem lcC_walk [Em β] {zs : List P} {h : α → P} {mt : α → Rs Bool} {mf : α → Rs β} (h0 : L[kp]? = some (n, .lst zs)) (ht : ∀ x, Wk L (mt x) (t (η.set i (some (.fz (h x))))) (PV id fun _ => L) XT) (hf : ∀ x, Wk L (mf x) (f (η.set i (some (.fz (h x))))) (PV fe fun _ => L) XT) :
    ∀ (xs : List α) (acc : List β), Wk L (lcN mt mf xs acc) (lcC n zs i t f η (xs.map h) (acc.map em)) (fun ys a => a.1 = ys.map em ∧ Own L a.2) XT
  | [], acc => fun st o => ⟨(acc.map em, st), by show lcC n zs i t f η [] (acc.map em) st = _; unfold lcC; rw [if_pos (o.get kp h0)], rfl, o⟩
  | x :: xs, acc => by
    have key : Wk L (lcN mt mf (x :: xs) acc) (fun st => (t (η.set i (some (.fz (h x)))) st).bind fun a => if a.1 = true then (f (η.set i (some (.fz (h x)))) a.2).bind fun b => match toP b.2 b.1 with
        | some (p, st2) => if (acc.map em).length < szL then lcC n zs i t f η (xs.map h) (acc.map em ++ [p]) st2 else .stuck
        | none => .stuck
      else lcC n zs i t f η (xs.map h) (acc.map em) a.2) (fun ys a => a.1 = ys.map em ∧ Own L a.2) XT := by
      refine w_th (wv (K := fun b st => if b = true then (f (η.set i (some (.fz (h x)))) st).bind fun b => match toP b.2 b.1 with
        | some (p, st2) => if (acc.map em).length < szL then lcC n zs i t f η (xs.map h) (acc.map em ++ [p]) st2 else .stuck
        | none => .stuck
      else lcC n zs i t f η (xs.map h) (acc.map em) st) (ht x) fun b => ?_) rfl
      cases b
      · exact lcC_walk h0 ht hf xs acc
      · show Wk L ((mf x).bind _) _ _ _
        refine w_th (wv (K := fun d st => match toP st d with
          | some (p, st2) => if (acc.map em).length < szL then lcC n zs i t f η (xs.map h) (acc.map em ++ [p]) st2 else .stuck
          | none => .stuck) (hf x) fun y => ?_) rfl
        by_cases hl : acc.length < 16777216
        · rw [if_pos hl]
          refine (lcC_walk h0 ht hf xs (acc ++ [y])).eqc (funext fun st => ?_)
          rw [List.map_append]
          exact if_pos (by rw [List.length_map]; exact hl)
        · rw [if_neg hl]; exact w_stuck
    intro st o
    have k := key st o
    have e : lcC n zs i t f η ((x :: xs).map h) (acc.map em) st = ((t (η.set i (some (.fz (h x)))) st).bind fun a => if a.1 = true then (f (η.set i (some (.fz (h x)))) a.2).bind fun b => match toP b.2 b.1 with
        | some (p, st2) => if (acc.map em).length < szL then lcC n zs i t f η (xs.map h) (acc.map em ++ [p]) st2 else .stuck
        | none => .stuck
      else lcC n zs i t f η (xs.map h) (acc.map em) a.2) := by
      show lcC n zs i t f η (h x :: xs.map h) (acc.map em) st = _
      rw [lcC]
      exact if_pos (o.get kp h0)
    rw [e]
    exact k
/-- over a list cell that stays as it is -/
theorem w_lcC [Em α] [Em β] {xs : List α} {mt : α → Rs Bool} {mf : α → Rs β} (he : Ev L (fs η) (.cell n)) (h0 : L[kp]? = some (n, .lst (xs.map em))) (ht : ∀ x, Wk L (mt x) (t (η.set i (some (.fz (em x))))) (PV id fun _ => L) XT) (hf : ∀ x, Wk L (mf x) (f (η.set i (some (.fz (em x))))) (PV fe fun _ => L) XT) :
    Wk L (calm (lcN mt mf xs [])) (dLcCZ fs i t f η) (PV fe fun _ => L) X := fun st o => by
  have h1 := lcC_walk h0 ht hf xs [] st o
  cases e : lcN mt mf xs [] with
  | stuck => trivial
  | exc c fs => trivial
  | ok ys =>
    rw [e] at h1
    obtain ⟨⟨zs, st'⟩, h2, h3, h4⟩ := h1
    have h3' : zs = ys.map em := h3
    subst h3'
    have h2' : lcC n (xs.map em) i t f η (xs.map em) [] st = .ok (ys.map em, st') := h2
    refine ⟨(fe ys, st'), ?_, rfl, h4⟩
    unfold dLcCZ
    rw [he st o, bind_ok]
    have ec : cellL st (.cell n) = some (n, xs.map em) := by unfold cellL; dsimp only; rw [o.get kp h0]
    dsimp only
    rw [ec]
    dsimp only
    rw [h2']
    rfl
/-- over a frozen list -/
theorem w_lcCF {p : P} {m : Rs γ} {Q : γ → D × Sr → Prop} (he : Ev L (fs η) (.fz p)) (h : Wk L m (dLcLZ fs i t f η) Q X) : Wk L m (dLcCZ fs i t f η) Q X := fun st o => by
  have h := h st o
  have e : dLcCZ fs i t f η st = dLcLZ fs i t f η st := by
    unfold dLcCZ dLcLZ
    rw [he st o]; rfl
  rw [e]; exact h
theorem w_sortSetT {d : D} {xs : Tu Int} (h : Pk L d (em xs)) : Wk L (sortSetN xs.l) (sortSetTO d) (PV fe fun _ => L) X := fun st o => by
  unfold sortSetN
  by_cases hl : xs.l.length < 64
  · rw [if_pos hl]
    refine ⟨(fe (Kd.setI xs.l), st), ?_, rfl, o⟩
    unfold sortSetTO
    rw [h st o]
    show (match intsP (xs.l.map em) with | some is => if is.length < 64 then R.ok (D.fz (.lst ((Kd.setI is).map P.int)), st) else .stuck | none => .stuck) = _
    rw [intsP_em]
    exact if_pos hl
  · rw [if_neg hl]; trivial
end
theorem w_args1 {L : Ow} {X : XP} {η : Et} {f : DE} {mv : Rs δ} {rep : δ → D} {L1 : δ → Ow} (V : Wk L mv (f η) (PV rep L1) X) : Wk L mv (dCons f dNil η) (PV (fun g => [rep g]) L1) X := fun st o => by
  have h := V st o
  cases mv with
  | stuck => trivial
  | exc c fs =>
    obtain ⟨e, s, h1, h2⟩ := h
    exact ⟨e, s, by show ((f η st).bind fun a => _) = _; rw [h1]; rfl, h2⟩
  | ok g =>
    obtain ⟨⟨d, s⟩, h1, h2, h3⟩ := h
    have h2' : d = rep g := h2
    subst h2'
    exact ⟨([rep g], s), by show ((f η st).bind fun a => _) = _; rw [h1]; rfl, rfl, h3⟩
end N
end
section
section
set_option Elab.async false
set_option linter.all false
set_option maxRecDepth 100000
set_option maxHeartbeats 0
namespace G
open PySem L2 M
def drawV (xs : List Int) (m : Int) : Int := match xs.getLast? with
  | none => 0
  | some x => x % m
theorem drawV_bd {xs : List Int} {m : Int} (hm : 0 < m) : 0 ≤ drawV xs m ∧ drawV xs m < m := by
  unfold drawV
  split
  · exact ⟨Int.le_refl _, hm⟩
  · exact ⟨Int.emod_nonneg _ (by omega), Int.emod_lt_of_pos _ hm⟩
def drawS (xs : List Int) : List Int := xs.dropLast
theorem draw_eq (xs : List Int) {m : Int} (hm : 0 < m) : F_l_draw [.cell 0, .fz (.int m)] [.lst (xs.map P.int)] = .ok (.fz (.int (drawV xs m)), [.lst (xs.dropLast.map P.int)]) := by
  rcases List.eq_nil_or_concat xs with rfl | ⟨ys, y, rfl⟩
  · refine run1 (η' := [some (.cell 0), some (.fz (.int m))]) (st' := [.lst []]) rfl ?_ rfl rfl
    simp [b_l_draw, dSeq, dIf, dTru, dBin, dUn, dAp, dCons, dNil, dVar, dK, dRet, dEx, dAsg, gNm, dSkip, dNot, dOr, dAnd, dCall, dBM, dSl, dPart, dNoPart, lenO, peek, lenP, eqO, neO, truO, truP, isLst, popO, appendO, int1O, intO, addO, mulO, negO, ixO, itemsP, tupO, lstO, listO, tupleO, toPs, toP, szL, drawV]
  · refine run1 (η' := [some (.cell 0), some (.fz (.int m))]) (st' := [.lst (ys.map P.int)]) rfl ?_ ?_ rfl
    · have h1 : ¬ ((ys.length : Int) + 1 = 0) := by omega
      simp [b_l_draw, dSeq, dIf, dTru, dBin, dUn, dAp, dCons, dNil, dVar, dK, dRet, dEx, dAsg, gNm, dSkip, dNot, dOr, dAnd, dCall, dBM, dSl, dPart, dNoPart, lenO, peek, lenP, eqO, neO, truO, truP, isLst, popO, appendO, int1O, intO, addO, mulO, negO, ixO, itemsP, tupO, lstO, listO, tupleO, toPs, toP, szL, drawV, hm, h1]
    · simp
end G
end
section
set_option Elab.async false
set_option linter.all false
set_option maxRecDepth 100000
set_option maxHeartbeats 0
namespace G
open PySem L2 M
theorem in_loop (s0 s2 s3 : Option D) (rest : Sr) : ∀ (l : List P) (acc : List Int) (r : Int) (o : Option D), acc.length + l.length ≤ 100000 → ∃ r' acc' o', acc'.length ≤ acc.length + l.length ∧
    loopD (gNm 5) b_l_stream_2 l [s0, some (.cell 0), s2, s3, some (.fz (.int r)), o] (.lst (acc.map P.int) :: rest) = .ok (.nx, [s0, some (.cell 0), s2, s3, some (.fz (.int r')), o'], .lst (List.map P.int acc') :: rest)
  | [], acc, r, o, _ => ⟨r, acc, o, Nat.le_refl _, rfl⟩
  | x :: l, acc, r, o, h => by
    have hlt : acc.length < 16777216 := by simp at h; omega
    by_cases hc : r / 100 = 0
    · refine ⟨r / 100, acc ++ [r % 100], some (.fz x), by simp, ?_⟩
      have e : b_l_stream_2 [s0, some (.cell 0), s2, s3, some (.fz (.int r)), some (.fz x)] (.lst (acc.map P.int) :: rest) = .ok (.bk, [s0, some (.cell 0), s2, s3, some (.fz (.int (r / 100))), some (.fz x)], .lst ((acc ++ [r % 100]).map P.int) :: rest) := by
        simp [b_l_stream_2, dSeq, dIf, dTru, dBin, dUn, dAp, dCons, dNil, dVar, dK, dRet, dEx, dAsg, gNm, dSkip, dNot, dOr, dAnd, dCall, dBM, dSl, dPart, dNoPart, lenO, peek, lenP, eqO, neO, truO, truP, isLst, popO, appendO, int1O, intO, addO, mulO, negO, ixO, itemsP, tupO, lstO, listO, tupleO, toPs, toP, szL, dBrk, hlt, hc]
      unfold loopD
      show ((b_l_stream_2 [s0, some (.cell 0), s2, s3, some (.fz (.int r)), some (.fz x)] (.lst (acc.map P.int) :: rest)).bind fun r => _) = _
      rw [e]
      rfl
    · obtain ⟨r', acc', o', hl, ih⟩ := in_loop s0 s2 s3 rest l (acc ++ [r % 100]) (r / 100) (some (.fz x)) (by simp at h ⊢; omega)
      refine ⟨r', acc', o', by simp at hl ⊢; omega, ?_⟩
      have e : b_l_stream_2 [s0, some (.cell 0), s2, s3, some (.fz (.int r)), some (.fz x)] (.lst (acc.map P.int) :: rest) = .ok (.nx, [s0, some (.cell 0), s2, s3, some (.fz (.int (r / 100))), some (.fz x)], .lst ((acc ++ [r % 100]).map P.int) :: rest) := by
        simp [b_l_stream_2, dSeq, dIf, dTru, dBin, dUn, dAp, dCons, dNil, dVar, dK, dRet, dEx, dAsg, gNm, dSkip, dNot, dOr, dAnd, dCall, dBM, dSl, dPart, dNoPart, lenO, peek, lenP, eqO, neO, truO, truP, isLst, popO, appendO, int1O, intO, addO, mulO, negO, ixO, itemsP, tupO, lstO, listO, tupleO, toPs, toP, szL, dBrk, hlt, hc]
      unfold loopD
      show ((b_l_stream_2 [s0, some (.cell 0), s2, s3, some (.fz (.int r)), some (.fz x)] (.lst (acc.map P.int) :: rest)).bind fun r => _) = _
      rw [e]
      exact ih
end G
end
section
set_option Elab.async false
set_option linter.all false
set_option maxRecDepth 100000
set_option maxHeartbeats 0
namespace G
open PySem L2 M
theorem two_ok {j : Int} {st : Sr} : mulO (.fz (.int 2)) (.fz (.int j)) st = .ok (.fz (.int (2 * j)), st) := mulO_l (by decide +kernel)
theorem sA (s0 : Option D) (rest : Sr) (k : Nat) (z a : Int) (acc : List Int) (o4 o5 : Option D) (hae : (if z < 0 then -z else z) = a) :
    dAsg (dAp absO (dCons (dVar 3) (dNil))) (gNm 4) [s0, some (.cell 0), some (.fz (.int k)), some (.fz (.int z)), o4, o5] (.lst (acc.map P.int) :: rest) = .ok (.nx, [s0, some (.cell 0), some (.fz (.int k)), some (.fz (.int z)), some (.fz (.int a)), o5], .lst (acc.map P.int) :: rest) := by
  simp [dSeq, dIf, dTru, dBin, dUn, dAp, dCons, dNil, dVar, dK, dRet, dEx, dAsg, gNm, dSkip, dNot, dOr, dAnd, dCall, dBM, dSl, dPart, dNoPart, lenO, peek, lenP, eqO, neO, truO, truP, isLst, popO, appendO, int1O, intO, addO, negO, ixO, itemsP, tupO, lstO, listO, tupleO, toPs, toP, szL, absO, hae]
theorem sB (s0 o5 : Option D) (st : Sr) (k : Nat) (z a s : Int) (hs : (if z < 0 then 1 else 0) = s) :
    dBin addO (dBin addO (dK (.int 6364136223846793005)) (dBin mulO (dK (.int 2)) (dVar 2))) (dAp int1O (dCons (dBin ltO (dVar 3) (dK (.int 0))) (dNil))) [s0, some (.cell 0), some (.fz (.int k)), some (.fz (.int z)), some (.fz (.int a)), o5] st = .ok (.fz (.int (6364136223846793005 + 2 * (k : Int) + s)), st) := by
  have e1 : dBin mulO (dK (.int 2)) (dVar 2) [s0, some (.cell 0), some (.fz (.int k)), some (.fz (.int z)), some (.fz (.int a)), o5] st = .ok (.fz (.int (2 * (k : Int))), st) := by
    show mulO (.fz (.int 2)) (.fz (.int k)) st = _
    exact two_ok
  have e2 : dAp int1O (dCons (dBin ltO (dVar 3) (dK (.int 0))) (dNil)) [s0, some (.cell 0), some (.fz (.int k)), some (.fz (.int z)), some (.fz (.int a)), o5] st = .ok (.fz (.int s), st) := by
    rw [← hs]
    by_cases h : z < 0 <;> simp [dSeq, dIf, dTru, dBin, dUn, dAp, dCons, dNil, dVar, dK, dRet, dEx, dAsg, gNm, dSkip, dNot, dOr, dAnd, dCall, dBM, dSl, dPart, dNoPart, lenO, peek, lenP, eqO, neO, truO, truP, isLst, popO, appendO, int1O, intO, addO, negO, ixO, itemsP, tupO, lstO, listO, tupleO, toPs, toP, szL, h]
  show ((((dK (.int 6364136223846793005) _ st).bind fun x => (dBin mulO (dK (.int 2)) (dVar 2) [s0, some (.cell 0), some (.fz (.int k)), some (.fz (.int z)), some (.fz (.int a)), o5] x.2).bind fun y => addO x.1 y.1 y.2)).bind fun x => (dAp int1O (dCons (dBin ltO (dVar 3) (dK (.int 0))) (dNil)) [s0, some (.cell 0), some (.fz (.int k)), some (.fz (.int z)), some (.fz (.int a)), o5] x.2).bind fun y => addO x.1 y.1 y.2) = _
  rw [show dK (.int 6364136223846793005) [s0, some (.cell 0), some (.fz (.int k)), some (.fz (.int z)), some (.fz (.int a)), o5] st = .ok (.fz (.int 6364136223846793005), st) from rfl, bind_ok, e1, bind_ok]
  show ((R.ok (D.fz (.int (6364136223846793005 + 2 * (k : Int))), st)).bind fun x => (dAp int1O (dCons (dBin ltO (dVar 3) (dK (.int 0))) (dNil)) [s0, some (.cell 0), some (.fz (.int k)), some (.fz (.int z)), some (.fz (.int a)), o5] x.2).bind fun y => addO x.1 y.1 y.2) = _
  rw [bind_ok, e2, bind_ok]
  rfl
theorem asg_mod {f g : DE} {η : Et} {st : Sr} {i c m : Int} {j : Nat} (hf : f η st = .ok (.fz (.int i), st)) (hg : g η st = .ok (.fz (.int c), st)) (hi : -18446744073709551616 < i ∧ i < 18446744073709551616) (hm : 0 < m) :
    dAsg (dBin modO (dAp int1O (dCons (dBin mulO f g) (dNil))) (dK (.int m))) (gNm j) η st = .ok (.nx, η.set j (some (.fz (.int (i * c % m)))), st) := by
  simp only [dAsg, dBin, dAp, dCons, hf, hg, bind_ok, mulO_l hi, int1O, modO_ok hm, dK, gNm, dNil]
theorem emod_bd (x : Int) : 0 ≤ x % 1000000000000000003 ∧ x % 1000000000000000003 < 1000000000000000003 := ⟨Int.emod_nonneg _ (by decide +kernel), Int.emod_lt_of_pos _ (by decide +kernel)⟩
theorem bd1 {b : Int} (h0 : 0 ≤ b) (h : b < 1000000000000000000) : -18446744073709551616 < b ∧ b < 18446744073709551616 := by omega
theorem bd2 {b : Int} (h : 0 ≤ b ∧ b < 1000000000000000003) : -18446744073709551616 < b ∧ b < 18446744073709551616 := by omega
theorem seq_nx {f g : DS} {η η' : Et} {st st' : Sr} (h : f η st = .ok (.nx, η', st')) : dSeq f g η st = g η' st' := by
  unfold dSeq
  rw [h]
  rfl
theorem lt_tst {η : Et} {st : Sr} {a m : Int} {i : Nat} (h : η[i]? = some (some (.fz (.int a)))) : dTru (dBin ltO (dVar i) (dK (.int m))) η st = .ok (decide (a < m), st) := by
  unfold dTru dBin dVar
  rw [h]
  rfl
theorem if_t {t : DT} {f g : DS} {η : Et} {st : Sr} (h : t η st = .ok (true, st)) : dIf t f g η st = f η st := by
  unfold dIf
  rw [h]
  rfl
theorem if_f {t : DT} {f g : DS} {η : Et} {st : Sr} (h : t η st = .ok (false, st)) : dIf t f g η st = g η st := by
  unfold dIf
  rw [h]
  rfl
theorem enumP_cons (k : Nat) (p : P) (l : List P) : enumP k (p :: l) = .tup [.int k, p] :: enumP (k + 1) l := rfl
/-- what the inner loop starts from -/
theorem st_body (s0 : Option D) (rest : Sr) (k : Nat) (z : Int) (acc : List Int) (o4 o5 : Option D) (ha : acc.length ≤ 90000) : ∃ r' acc' o5', acc'.length ≤ acc.length + 60 ∧
    b_l_stream_1 [s0, some (.cell 0), some (.fz (.int k)), some (.fz (.int z)), o4, o5] (.lst (acc.map P.int) :: rest) = .ok (.nx, [s0, some (.cell 0), some (.fz (.int k)), some (.fz (.int z)), some (.fz (.int r')), o5'], .lst (List.map P.int acc') :: rest) := by
  have hin := fun r => in_loop s0 (some (.fz (.int k))) (some (.fz (.int z))) rest (rangeP 0 60) acc r o5 (by rw [rangeP_len]; omega)
  have hfor : ∀ r, ∃ r' acc' o', acc'.length ≤ acc.length + 60 ∧ dForR1 (dCons (dK (.int 60)) (dNil)) (gNm 5) b_l_stream_2 [s0, some (.cell 0), some (.fz (.int k)), some (.fz (.int z)), some (.fz (.int r)), o5] (.lst (acc.map P.int) :: rest) = .ok (.nx, [s0, some (.cell 0), some (.fz (.int k)), some (.fz (.int z)), some (.fz (.int r')), o'], .lst (List.map P.int acc') :: rest) := fun r => by
    obtain ⟨r', acc', o', hl, h⟩ := hin r
    rw [rangeP_len] at hl
    exact ⟨r', acc', o', hl, (forR1_eq (k := 60) (st' := .lst (acc.map P.int) :: rest) rfl (by decide)).trans h⟩
  generalize hg : dForR1 (dCons (dK (.int 60)) (dNil)) (gNm 5) b_l_stream_2 = fr at hfor
  obtain ⟨a, hae⟩ : ∃ a : Int, (if z < 0 then -z else z) = a := ⟨_, rfl⟩
  have ha0 : 0 ≤ a := by rw [← hae]; split <;> omega
  unfold b_l_stream_1
  rw [hg, seq_nx (sA s0 rest k z a acc o4 o5 hae)]
  by_cases hz : a < 1000000000000000000
  · obtain ⟨s, hs⟩ : ∃ s : Int, (if z < 0 then 1 else 0) = s := ⟨_, rfl⟩
    obtain ⟨b, hb⟩ : ∃ b : Int, b = a * (6364136223846793005 + 2 * (k : Int) + s) % 1000000000000000003 := ⟨_, rfl⟩
    have hb0 : 0 ≤ b ∧ b < 1000000000000000003 := by rw [hb]; exact emod_bd _
    obtain ⟨d, hd⟩ : ∃ d : Int, d = b * (b + 1442695040888963407) % 1000000000000000009 := ⟨_, rfl⟩
    obtain ⟨r', acc', o', hl, h⟩ := hfor d
    refine ⟨r', acc', o', hl, ?_⟩
    have e1 := asg_mod (j := 4) (m := 1000000000000000003) (f := dVar 4) (i := a) (η := [s0, some (.cell 0), some (.fz (.int k)), some (.fz (.int z)), some (.fz (.int a)), o5]) (st := .lst (acc.map P.int) :: rest) rfl (sB s0 o5 (.lst (acc.map P.int) :: rest) k z a s hs) (bd1 ha0 hz) (by decide +kernel)
    rw [← hb] at e1
    have e2 := asg_mod (j := 4) (m := 1000000000000000009) (f := dVar 4) (g := dBin addO (dVar 4) (dK (.int 1442695040888963407))) (i := b) (c := b + 1442695040888963407) (η := [s0, some (.cell 0), some (.fz (.int k)), some (.fz (.int z)), some (.fz (.int b)), o5]) (st := .lst (acc.map P.int) :: rest) rfl rfl (bd2 hb0) (by decide +kernel)
    rw [← hd] at e2
    have e3 : dIf (dTru (dBin ltO (dVar 4) (dK (.int 1000000000000000000)))) (dSeq (dAsg (dBin modO (dAp int1O (dCons (dBin mulO (dVar 4) (dBin addO (dBin addO (dK (.int 6364136223846793005)) (dBin mulO (dK (.int 2)) (dVar 2))) (dAp int1O (dCons (dBin ltO (dVar 3) (dK (.int 0))) (dNil))))) (dNil))) (dK (.int 1000000000000000003))) (gNm 4)) (dAsg (dBin modO (dAp int1O (dCons (dBin mulO (dVar 4) (dBin addO (dVar 4) (dK (.int 1442695040888963407)))) (dNil))) (dK (.int 1000000000000000009))) (gNm 4))) (dSkip) [s0, some (.cell 0), some (.fz (.int k)), some (.fz (.int z)), some (.fz (.int a)), o5] (.lst (acc.map P.int) :: rest) = .ok (.nx, [s0, some (.cell 0), some (.fz (.int k)), some (.fz (.int z)), some (.fz (.int d)), o5], .lst (acc.map P.int) :: rest) := by
      rw [if_t (by rw [lt_tst (a := a) rfl, decide_eq_true hz]), seq_nx e1]
      exact e2
    rw [seq_nx e3]
    exact h
  · obtain ⟨r', acc', o', hl, h⟩ := hfor a
    refine ⟨r', acc', o', hl, ?_⟩
    rw [seq_nx (if_f (by rw [lt_tst (a := a) rfl, decide_eq_false hz]))]
    exact h
theorem out_loop (s0 : Option D) (rest : Sr) : ∀ (zs : List Int) (k : Nat) (acc : List Int) (o2 o3 o4 o5 : Option D), acc.length + 60 * zs.length ≤ 90000 → ∃ acc' o2' o3' o4' o5',
    loopD (gTp [gNm 2, gNm 3]) b_l_stream_1 (enumP k (zs.map P.int)) [s0, some (.cell 0), o2, o3, o4, o5] (.lst (acc.map P.int) :: rest) = .ok (.nx, [s0, some (.cell 0), o2', o3', o4', o5'], .lst (List.map P.int acc') :: rest)
  | [], k, acc, o2, o3, o4, o5, _ => ⟨acc, o2, o3, o4, o5, rfl⟩
  | z :: zs, k, acc, o2, o3, o4, o5, h => by
    obtain ⟨r', acc1, o5', hl, hb⟩ := st_body s0 rest k z acc o4 o5 (by simp at h; omega)
    obtain ⟨acc', p2, p3, p4, p5, ih⟩ := out_loop s0 rest zs (k + 1) acc1 (some (.fz (.int k))) (some (.fz (.int z))) (some (.fz (.int r'))) o5' (by simp at h; omega)
    refine ⟨acc', p2, p3, p4, p5, ?_⟩
    rw [List.map_cons, enumP_cons]
    unfold loopD
    show ((b_l_stream_1 [s0, some (.cell 0), some (.fz (.int k)), some (.fz (.int z)), o4, o5] (.lst (acc.map P.int) :: rest)).bind fun r => _) = _
    rw [hb]
    exact ih
theorem stream_ex (ns : List Int) : ∃ ys, F_l_stream [.fz (.rol (ns.map P.int))] [] = .ok (.cell 0, [.lst (List.map P.int ys)]) := by
  have hcut : cutP (ns.map P.int) none (some 63) = (ns.take 63).map P.int := by
    unfold cutP
    rw [HT.sIx_none, show (some (63 : Int)) = some ((63 : Nat) : Int) from rfl, HT.sIx_nat, List.drop_zero, Nat.sub_zero, ← List.map_take]
    congr 1
    rw [List.length_map]
    exact List.take_eq_take_iff.mpr (by omega)
  obtain ⟨acc, o2, o3, o4, o5, h⟩ := out_loop (some (.fz (.rol (ns.map P.int)))) [.frz (.lst ((ns.take 63).map P.int))] (ns.take 63) 0 [] none none none none (by simp; omega)
  refine ⟨acc.reverse, ?_⟩
  have e1 : dAsg (dAp lstO (dNil)) (gNm 1) [some (.fz (.rol (ns.map P.int))), none, none, none, none, none] [] = .ok (.nx, [some (.fz (.rol (ns.map P.int))), some (.cell 0), none, none, none, none], [.lst []]) := rfl
  have e2 : dForE (dCons (dSl (dVar 0) (dNoPart) (dPart (dK (.int 63)))) (dNil)) (gTp [gNm 2, gNm 3]) b_l_stream_1 [some (.fz (.rol (ns.map P.int))), some (.cell 0), none, none, none, none] [.lst []] = .ok (.nx, [some (.fz (.rol (ns.map P.int))), some (.cell 0), o2, o3, o4, o5], [.lst (List.map P.int acc), .frz (.lst ((ns.take 63).map P.int))]) := by
    rw [← hcut] at h ⊢
    exact h
  have e3 : dEx (dBM isLst reverseO (dVar 1) dNil) [some (.fz (.rol (ns.map P.int))), some (.cell 0), o2, o3, o4, o5] [.lst (List.map P.int acc), .frz (.lst ((ns.take 63).map P.int))] = .ok (.nx, [some (.fz (.rol (ns.map P.int))), some (.cell 0), o2, o3, o4, o5], [.lst (List.map P.int acc).reverse, .frz (.lst ((ns.take 63).map P.int))]) := rfl
  have e4 : b_l_stream [some (.fz (.rol (ns.map P.int))), none, none, none, none, none] [] = .ok (.rt (.cell 0), [some (.fz (.rol (ns.map P.int))), some (.cell 0), o2, o3, o4, o5], [.lst (List.map P.int acc).reverse, .frz (.lst ((ns.take 63).map P.int))]) := by
    unfold b_l_stream
    rw [seq_nx e1, seq_nx e2, seq_nx e3]
    rfl
  unfold F_l_stream runF
  refine (if_pos rfl).trans ?_
  show endF false 0 (b_l_stream [some (.fz (.rol (ns.map P.int))), none, none, none, none, none] []) = _
  rw [e4, List.map_reverse]
  rfl
end G
end
section
set_option Elab.async false
set_option linter.all false
set_option maxRecDepth 100000
set_option maxHeartbeats 0
namespace G
open PySem L2 M
def rngI (n : Nat) : List Int := (List.range n).map fun i : Nat => (i : Int)
end G
end
section
set_option Elab.async false
set_option linter.all false
set_option maxRecDepth 100000
set_option maxHeartbeats 0
namespace G
open PySem L2 M
def bagIx (ws : List Int) : List Int := (rngI ws.length).mergeSort fun i j => decide (keyI (ws.map P.int) i ≤ keyI (ws.map P.int) j)
end G
end
section
set_option Elab.async false
set_option linter.all false
set_option maxRecDepth 100000
set_option maxHeartbeats 0
namespace G
open PySem L2 M
/-- the value at an index -/
def vAt (ws : List Int) (i : Int) : Int := ws.getD i.toNat 0
def sGo (ws : List Int) : List Int → List Int → List Int
  | acc, [] => acc
  | acc, i :: r => if acc = [] ∨ vAt ws (acc.getLastD 0) ≠ vAt ws i then sGo ws (acc ++ [i]) r else sGo ws acc r
end G
end
section
set_option Elab.async false
set_option linter.all false
set_option maxRecDepth 100000
set_option maxHeartbeats 0
namespace G
open PySem L2 M
abbrev okIx (ws : List Int) (l : List Int) : Prop := ∀ j ∈ l, 0 ≤ j ∧ j < (ws.length : Int)
theorem bag_ok (ws : List Int) : okIx ws (bagIx ws) := fun j hj => by
  have := (List.mergeSort_perm _ _).mem_iff.mp hj
  unfold rngI at this
  obtain ⟨n, hn, rfl⟩ := List.mem_map.mp this
  have := List.mem_range.mp hn
  omega
end G
end
section
set_option Elab.async false
set_option linter.all false
set_option maxRecDepth 100000
set_option maxHeartbeats 0
namespace G
open PySem L2 M
theorem rng_len (n : Nat) : (rngI n).length = n := by simp [rngI]
end G
end
section
set_option Elab.async false
set_option linter.all false
set_option maxRecDepth 100000
set_option maxHeartbeats 0
namespace G
open PySem L2 M
theorem vAt_nat (ws : List Int) (n : Nat) : vAt ws (n : Int) = ws.getD n 0 := by unfold vAt; rw [Int.toNat_natCast]
theorem map_rng (ws : List Int) : (rngI ws.length).map (vAt ws) = ws := by
  apply List.ext_getElem?
  intro n
  unfold rngI
  rw [List.map_map, List.getElem?_map]
  by_cases h : n < ws.length
  · rw [List.getElem?_range h, List.getElem?_eq_getElem h]
    show some (vAt ws (n : Int)) = _
    rw [vAt_nat, List.getD_eq_getElem?_getD, List.getElem?_eq_getElem h]
    rfl
  · rw [List.getElem?_eq_none (by simpa using h), List.getElem?_eq_none (by simpa using h)]
    rfl
theorem keyI_vAt (ws : List Int) (i : Int) (h : 0 ≤ i ∧ i < ws.length) : keyI (ws.map P.int) i = vAt ws i := by
  have hn : i.toNat < ws.length := by omega
  unfold keyI vAt
  rw [List.getElem?_map, List.getElem?_eq_getElem hn, List.getD_eq_getElem?_getD, List.getElem?_eq_getElem hn]
  rfl
theorem map_bag (ws : List Int) : (bagIx ws).map (vAt ws) = Kd.sortI ws := by
  have hp : ((bagIx ws).map (vAt ws)).Perm ws := by
    have h : (bagIx ws).Perm (rngI ws.length) := List.mergeSort_perm _ _
    have := h.map (vAt ws)
    rwa [map_rng] at this
  have hs : (bagIx ws).Pairwise fun i j => decide (keyI (ws.map P.int) i ≤ keyI (ws.map P.int) j) = true :=
    List.pairwise_mergeSort (fun a b c h1 h2 => by simp only [decide_eq_true_eq] at *; omega) (fun a b => by simp only [Bool.or_eq_true, decide_eq_true_eq]; omega) _
  have hs2 : ((bagIx ws).map (vAt ws)).Pairwise (· ≤ ·) := by
    rw [List.pairwise_map]
    refine List.Pairwise.imp_of_mem (fun {a b} ha hb h => ?_) hs
    rw [← keyI_vAt ws a (bag_ok ws a ha), ← keyI_vAt ws b (bag_ok ws b hb)]
    exact of_decide_eq_true h
  exact Kd.sorted_eq hs2 (Kd.sortI_sorted ws) (hp.trans (Kd.sortI_perm ws).symm)
/-- without neighbours that are equal -/
def dGo : List Int → List Int → List Int
  | acc, [] => acc
  | acc, x :: r => if acc = [] ∨ acc.getLastD 0 ≠ x then dGo (acc ++ [x]) r else dGo acc r
theorem map_sGo (ws : List Int) : ∀ (l acc : List Int), (sGo ws acc l).map (vAt ws) = dGo (acc.map (vAt ws)) (l.map (vAt ws))
  | [], acc => rfl
  | i :: l, acc => by
    have hiff : (acc = [] ∨ vAt ws (acc.getLastD 0) ≠ vAt ws i) ↔ (acc.map (vAt ws) = [] ∨ (acc.map (vAt ws)).getLastD 0 ≠ vAt ws i) := by
      rcases List.eq_nil_or_concat acc with rfl | ⟨m, x, rfl⟩
      · simp
      · simp
    by_cases h : acc = [] ∨ vAt ws (acc.getLastD 0) ≠ vAt ws i
    · rw [show sGo ws acc (i :: l) = sGo ws (acc ++ [i]) l by rw [sGo, if_pos h], List.map_cons, show dGo (acc.map (vAt ws)) (vAt ws i :: l.map (vAt ws)) = dGo (acc.map (vAt ws) ++ [vAt ws i]) (l.map (vAt ws)) by rw [dGo, if_pos (hiff.mp h)], map_sGo ws l, List.map_append]
      rfl
    · rw [show sGo ws acc (i :: l) = sGo ws acc l by rw [sGo, if_neg h], List.map_cons, show dGo (acc.map (vAt ws)) (vAt ws i :: l.map (vAt ws)) = dGo (acc.map (vAt ws)) (l.map (vAt ws)) by rw [dGo, if_neg (fun q => h (hiff.mpr q))], map_sGo ws l]
/-- of a sorted list: what heads gives -/
theorem dGo_hgo : ∀ (l acc : List Int), (acc ++ l).Pairwise (· ≤ ·) → dGo acc l = Kd.hgo acc l
  | [], acc, _ => rfl
  | x :: l, acc, h => by
    have hiff : (acc = [] ∨ acc.getLastD 0 ≠ x) ↔ x ∉ acc := by
      rcases List.eq_nil_or_concat acc with rfl | ⟨m, y, rfl⟩
      · simp
      · simp only [List.concat_eq_append] at h ⊢
        rw [List.append_assoc] at h
        have hp := List.pairwise_append.mp h
        have h2 := (List.pairwise_cons.mp hp.2.1).1 x (by simp)
        constructor
        · rintro (q | q)
          · simp at q
          · simp at q
            intro hm
            rcases List.mem_append.mp hm with hm | hm
            · have h3 := hp.2.2 x hm y (by simp)
              omega
            · simp at hm; exact q hm.symm
        · intro q
          refine .inr ?_
          simp at q ⊢
          exact fun e => q.2 e.symm
    by_cases hc : acc = [] ∨ acc.getLastD 0 ≠ x
    · rw [dGo, if_pos hc, Kd.hgo, if_neg (hiff.mp hc)]
      exact dGo_hgo l _ (by rw [List.append_assoc]; exact h)
    · rw [dGo, if_neg hc, Kd.hgo, if_pos (Classical.byContradiction fun q => hc (hiff.mpr q))]
      refine dGo_hgo l _ (h.sublist ?_)
      exact List.Sublist.append_left (List.sublist_cons_self x l) acc
theorem hgo_sorted : ∀ (l acc : List Int), (acc ++ l).Pairwise (· ≤ ·) → (Kd.hgo acc l).Pairwise (· ≤ ·)
  | [], acc, h => by rwa [List.append_nil] at h
  | x :: l, acc, h => by
    by_cases hx : x ∈ acc
    · rw [Kd.hgo, if_pos hx]
      exact hgo_sorted l acc (h.sublist (List.Sublist.append_left (List.sublist_cons_self x l) acc))
    · rw [Kd.hgo, if_neg hx]
      exact hgo_sorted l _ (by rw [List.append_assoc]; exact h)
theorem map_set (ws : List Int) : (sGo ws [] (bagIx ws)).map (vAt ws) = Kd.setI ws := by
  rw [map_sGo, map_bag]
  show dGo [] (Kd.sortI ws) = _
  rw [dGo_hgo _ _ (Kd.sortI_sorted ws)]
  refine Kd.sorted_eq (hgo_sorted _ _ (Kd.sortI_sorted ws)) (Kd.sortI_sorted _) ?_
  exact (Kd.heads_perm fun x => Kd.mem_sortI).trans (Kd.sortI_perm _).symm
end G
end
end
section
set_option Elab.async false
set_option linter.all false
set_option maxRecDepth 100000
set_option maxHeartbeats 0
namespace G
open PySem L2 M N
def n_l_draw (s : List Int) (n : Int) : Rs (Int × List Int) := if 0 < n then .ok (drawV s n, drawS s) else .stuck
theorem sp_l_draw (s : List Int) (n : Int) : Sp1 (fun s : List Int => Ct.lst (List.map em s)) (n_l_draw s n) F_l_draw [] [em (n : Int)] (.lst (List.map em s)) := by
  refine ⟨?_⟩
  unfold n_l_draw
  by_cases h : 0 < n
  · rw [if_pos h]; exact draw_eq s h
  · rw [if_neg h]; trivial
noncomputable def streamOf (ns : List Int) : List Int := Classical.choose (stream_ex ns)
noncomputable def n_l_stream (r : Rol) : Rs (List Int) := .ok (streamOf r.l)
theorem spn_l_stream (r : Rol) : SpN (fun t : List Int => Ct.lst (List.map em t)) (n_l_stream r) F_l_stream [em (r : Rol)] := ⟨Classical.choose_spec (stream_ex r.l)⟩
end G
set_option Elab.async false
set_option linter.all false
set_option maxRecDepth 100000
set_option maxHeartbeats 0
namespace G
open PySem L2 M N
def knN : List Str := ["m", "kb", "a", "zzz", "if", "any", "b"]
theorem check_ok {s : Str} (h : s ∈ knN) : F_check_name [.fz (.str s)] [] = .ok (.fz .non, []) := by
  simp only [knN, List.mem_cons, List.not_mem_nil, or_false] at h
  rcases h with rfl | rfl | rfl | rfl | rfl | rfl | rfl <;> kernel_rfl
abbrev CrW := T2 Str Str
def crSt (ws : List CrW) : Sr := [.obj "Crew" [("_workers", .cell 1)], .lst (ws.map em)]
theorem inB_str (s : Str) (l : List Str) : inB (.str s) (.lst (l.map P.str)) = some (decide (s ∈ l)) := by
  have hf : ∀ l : List Str, (l.map P.str).all flatP = true := fun l => by
    rw [List.all_map]; exact List.all_eq_true.mpr fun _ _ => rfl
  show (if flatP (.str s) = true ∧ (l.map P.str).all flatP = true then some (inV (vP (.str s)) ((l.map P.str).map vP)) else _) = _
  rw [if_pos ⟨rfl, hf l⟩]
  congr 1
  unfold inV
  induction l with
  | nil => rfl
  | cons y r ih =>
    rw [List.map_cons, List.map_cons, List.any_cons, ih]
    show ((y == s) || decide (s ∈ r)) = _
    by_cases e : y = s
    · subst e; simp
    · have e' : ¬ s = y := fun h => e h.symm
      simp [e, e']
theorem has_lc {zs : List P} {st : Sr} (hz : st[1]? = some (.lst zs)) (a b : Option D) : ∀ (ys : List CrW) (acc : List P), acc.length + ys.length ≤ 1000 → lcC 1 zs 2 dYes (dBin ixO (dVar 2) (dK (.int 0))) [a, b, none] (ys.map em) acc st = .ok (acc ++ ys.map (fun w => P.str w.a), st)
  | [], acc, _ => by
    show lcC 1 zs 2 dYes _ _ [] acc st = _
    unfold lcC
    rw [if_pos hz, List.map_nil, List.append_nil]
  | y :: ys, acc, hl => by
    have hl' : acc.length + ys.length + 1 ≤ 1000 := by simpa [Nat.add_assoc] using hl
    show lcC 1 zs 2 dYes _ _ (em y :: ys.map em) acc st = _
    rw [lcC, if_pos hz]
    show (if acc.length < szL then lcC 1 zs 2 dYes (dBin ixO (dVar 2) (dK (.int 0))) [a, b, none] (ys.map em) (acc ++ [P.str y.a]) st else .stuck) = _
    rw [if_pos (show acc.length < 16777216 by omega), has_lc hz a b ys _ (by rw [List.length_append]; simp; omega)]
    simp
theorem has_ok {s : Str} {ws : List CrW} (hl : ws.length ≤ 1000) : F_Crew_has [.cell 0, .fz (.str s)] (crSt ws) = .ok (.fz (.bl (decide (s ∈ ws.map (·.a)))), crSt ws) := by
  have e1 : dLcCZ (dFld "_workers" ["Crew"] (dVar 0)) 2 dYes (dBin ixO (dVar 2) (dK (.int 0))) [some (.cell 0), some (.fz (.str s)), none] (crSt ws) = .ok (.fz (.lst (ws.map fun w => P.str w.a)), crSt ws) := by
    show lcZ (lcC 1 (ws.map em) 2 dYes (dBin ixO (dVar 2) (dK (.int 0))) [some (.cell 0), some (.fz (.str s)), none] (ws.map em) [] (crSt ws)) = _
    rw [has_lc (st := crSt ws) rfl _ _ ws [] (by simpa using hl)]
    rfl
  have e2 : inO (.fz (.str s)) (.fz (.lst (ws.map fun w => P.str w.a))) (crSt ws) = .ok (.fz (.bl (decide (s ∈ ws.map (·.a)))), crSt ws) := by
    show (match inB (.str s) (.lst (ws.map fun w => P.str w.a)) with | some b => R.ok (D.fz (.bl b), crSt ws) | none => .stuck) = _
    rw [show (ws.map fun w => P.str w.a) = (ws.map (·.a)).map P.str by rw [List.map_map]; rfl, inB_str]
  have e3 : b_Crew_has [some (.cell 0), some (.fz (.str s)), none] (crSt ws) = .ok (.rt (.fz (.bl (decide (s ∈ ws.map (·.a))))), [some (.cell 0), some (.fz (.str s)), none], crSt ws) := by
    delta b_Crew_has
    exact s_ret (e_bin (e_var rfl) e1 e2)
  show endF true 2 (b_Crew_has [some (.cell 0), some (.fz (.str s)), none] (crSt ws)) = _
  rw [e3]
  rfl
theorem call_has {s : Str} {ws : List CrW} {η : Et} (hl : ws.length ≤ 1000) : callF F_Crew_has [.cell 0, .fz (.str s)] η (crSt ws) = .ok (.fz (.bl (decide (s ∈ ws.map (·.a)))), crSt ws) := by
  show callI F_Crew_has [0, 1] [.cell 0, .fz (.str s)] η (crSt ws) = _
  unfold callI
  rw [if_pos (by decide)]
  show (match F_Crew_has [.cell 0, .fz (.str s)] (crSt ws) with
    | .ok (d, st2) => if [0, 1].length ≤ st2.length then R.ok (bkD [0, 1] (crSt ws).length d, backS [0, 1] (crSt ws) st2) else .stuck
    | .exc c fs _ st2 => if [0, 1].length ≤ st2.length then .exc c fs η (backS [0, 1] (crSt ws) st2) else .stuck
    | .stuck => .stuck) = _
  rw [has_ok hl]
  rfl
theorem call_check {s : Str} (h : s ∈ knN) {η : Et} {st : Sr} : callF F_check_name [.fz (.str s)] η st = .ok (.fz .non, st) := callF_fz (ps := [.str s]) (check_ok h)
def crewOk (ws : List CrW) : Bool := decide (0 < ws.length ∧ ws.length ≤ 6 ∧ (∀ w ∈ ws, w.a ∈ knN ∧ w.b ∈ knN) ∧ (ws.map (·.a)).Nodup)
theorem init_step {all : P} {x2 x3 : Option D} {done : List CrW} {w : CrW} (h1 : w.a ∈ knN) (h2 : w.b ∈ knN) (h3 : w.a ∉ done.map (·.a)) (hl : done.length ≤ 100) :
    b_Crew_init_1 [some (.cell 0), some (.fz all), some (.fz (.str w.a)), some (.fz (.str w.b))] (crSt done) = .ok (.nx, [some (.cell 0), some (.fz all), some (.fz (.str w.a)), some (.fz (.str w.b))], crSt (done ++ [w])) := by
  delta b_Crew_init_1
  refine s_seq (s_ex (e_call (e_cons (e_var rfl) e_nil) (call_check h1))) ?_
  refine s_seq (s_ex (e_call (e_cons (e_var rfl) e_nil) (call_check h2))) ?_
  refine s_seq (s_iff (e_tru (e_meth (F := F_Crew_has) (e_var rfl) rfl (e_cons (e_var rfl) e_nil) (call_has (by omega))) (tru_bl (decide_eq_false h3))) s_skip) ?_
  refine s_ex (e_bm (a := .cell 1) (s1 := crSt done) rfl rfl (e_cons (e_ap (e_cons (e_var rfl) (e_cons (e_var rfl) e_nil)) rfl) e_nil) (append_at (xs := done.map em) rfl (by rw [List.length_map]; omega))) |>.trans ?_
  show R.ok (Fl.nx, _, ([Ct.obj "Crew" [("_workers", .cell 1)], .lst (done.map em ++ [em w])] : Sr)) = _
  unfold crSt
  rw [List.map_append]
  rfl
theorem init_loop {all : P} : ∀ (ws done : List CrW) (x2 x3 : Option D), (∀ w ∈ ws, w.a ∈ knN ∧ w.b ∈ knN) → ((done ++ ws).map (·.a)).Nodup → (done ++ ws).length ≤ 100 →
    ∃ η, loopD (gTp [gNm 2, gNm 3]) b_Crew_init_1 (ws.map em) [some (.cell 0), some (.fz all), x2, x3] (crSt done) = .ok (.nx, η, crSt (done ++ ws))
  | [], done, x2, x3, _, _, _ => ⟨_, by rw [List.append_nil]; rfl⟩
  | w :: ws, done, x2, x3, hk, hn, hl => by
    have hd : done ++ w :: ws = (done ++ [w]) ++ ws := by simp
    have hw := hk w List.mem_cons_self
    have h3 : w.a ∉ done.map (·.a) := fun hm => by
      rw [List.map_append, List.nodup_append] at hn
      exact hn.2.2 _ hm _ (by simp) rfl
    obtain ⟨η, e⟩ := init_loop (all := all) ws (done ++ [w]) (some (.fz (.str w.a))) (some (.fz (.str w.b))) (fun v hv => hk v (List.mem_cons_of_mem _ hv)) (by rw [← hd]; exact hn) (by rw [← hd]; exact hl)
    refine ⟨η, ?_⟩
    rw [hd]
    show ((b_Crew_init_1 [some (.cell 0), some (.fz all), some (.fz (.str w.a)), some (.fz (.str w.b))] (crSt done)).bind fun r => match r.1 with
      | .nx => loopD (gTp [gNm 2, gNm 3]) b_Crew_init_1 (ws.map em) r.2.1 r.2.2
      | .ct => loopD (gTp [gNm 2, gNm 3]) b_Crew_init_1 (ws.map em) r.2.1 r.2.2
      | .bk => .ok (.nx, r.2.1, r.2.2)
      | .rt d => .ok (.rt d, r.2.1, r.2.2)) = _
    rw [init_step (x2 := x2) (x3 := x3) hw.1 hw.2 h3 (by rw [List.length_append] at hl; simp at hl; omega), bind_ok]
    exact e
theorem len_l {ws : List CrW} {η : Et} {st : Sr} (h : η[1]? = some (some (.fz (.lst (ws.map em))))) : dAp lenO (dCons (dVar 1) dNil) η st = .ok (.fz (.int (ws.length : Int)), st) :=
  (ev_ap (L := []) (ev_cons (ev_var h) ev_nil) (ev_len (xs := ws) pk_fz)) st (Own.nil st)
theorem init_ok {ws : List CrW} (h : crewOk ws = true) : F_Crew_init [.cell 0, .fz (.lst (ws.map em))] [.obj "Crew" []] = .ok (.fz .non, crSt ws) := by
  obtain ⟨h0, h6, hk, hn⟩ := of_decide_eq_true h
  obtain ⟨η, e⟩ := init_loop (all := .lst (ws.map em)) ws [] none none hk hn (by rw [List.nil_append]; omega)
  have e1 : b_Crew_init [some (.cell 0), some (.fz (.lst (ws.map em))), none, none] [.obj "Crew" []] = .ok (.nx, η, crSt ws) := by
    delta b_Crew_init
    refine s_seq (s_iff (e_or_f (e_tru (e_bin (len_l rfl) e_k rfl) (tru_bl ?_)) (e_tru (e_bin (len_l rfl) rfl rfl) (tru_bl ?_))) s_skip) ?_
    · show PyData.eqv (.int (ws.length : Int)) (.int 0) = false
      rw [PyData.eqv]
      exact beq_eq_false_iff_ne.mpr (by omega)
    · exact decide_eq_false (by omega)
    · exact s_seq (η' := [some (.cell 0), some (.fz (.lst (ws.map em))), none, none]) (s1 := crSt []) rfl (s_forL (e_var rfl) rfl rfl e)
  show endF true 1 (b_Crew_init [some (.cell 0), some (.fz (.lst (ws.map em))), none, none] [.obj "Crew" []]) = _
  rw [e1]
  rfl
abbrev RuW := T2 (Tu Str) (Tu (T3 (Tu Str) Str Int))
def schemeOk (rs : List RuW) : Bool := decide (rs.length ≤ 4 ∧ ∀ r ∈ rs, r.b.l.length ≤ 3)
def scSt (rs : List RuW) : Sr := [.obj "Scheme" [("rules", .fz (.lst (rs.map em)))]]
theorem rule_loop {all : P} {st : Sr} (hst : ∃ rs, st = scSt rs) : ∀ (rs : List RuW) (x2 x3 : Option D), (∀ r ∈ rs, r.b.l.length ≤ 3) → ∃ η, loopD (gTp [gNm 2, gNm 3]) b_Scheme_init_1 (rs.map em) [some (.cell 0), some (.fz all), x2, x3] st = .ok (.nx, η, st)
  | [], x2, x3, _ => ⟨_, rfl⟩
  | r :: rs, x2, x3, h => by
    obtain ⟨η, e⟩ := rule_loop (all := all) hst rs (some (fe r.a)) (some (fe r.b)) fun v hv => h v (List.mem_cons_of_mem _ hv)
    refine ⟨η, ?_⟩
    have e1 : b_Scheme_init_1 [some (.cell 0), some (.fz all), some (fe r.a), some (fe r.b)] st = .ok (.nx, [some (.cell 0), some (.fz all), some (fe r.a), some (fe r.b)], st) := by
      obtain ⟨rs0, rfl⟩ := hst
      delta b_Scheme_init_1
      have el : dAp lenO (dCons (dVar 3) dNil) [some (.cell 0), some (.fz all), some (fe r.a), some (fe r.b)] (scSt rs0) = .ok (fe (lenI r.b.l), scSt rs0) :=
        (ev_ap (L := []) (ev_cons (ev_var rfl) ev_nil) (ev_lenT (xs := r.b) pk_fz)) _ (Own.nil _)
      refine s_iff (e_tru (e_bin el rfl rfl) (tru_bl ?_)) s_skip
      have := h r List.mem_cons_self
      exact decide_eq_false (by show ¬ (3 : Int) < (r.b.l.length : Int); omega)
    show ((b_Scheme_init_1 [some (.cell 0), some (.fz all), some (fe r.a), some (fe r.b)] st).bind fun r => match r.1 with
      | .nx => loopD (gTp [gNm 2, gNm 3]) b_Scheme_init_1 (rs.map em) r.2.1 r.2.2
      | .ct => loopD (gTp [gNm 2, gNm 3]) b_Scheme_init_1 (rs.map em) r.2.1 r.2.2
      | .bk => .ok (.nx, r.2.1, r.2.2)
      | .rt d => .ok (.rt d, r.2.1, r.2.2)) = _
    rw [e1, bind_ok]
    exact e
theorem sinit_ok {rs : List RuW} (h : schemeOk rs = true) : F_Scheme_init [.cell 0, .fz (.lst (rs.map em))] [.obj "Scheme" []] = .ok (.fz .non, scSt rs) := by
  obtain ⟨h4, h3⟩ := of_decide_eq_true h
  obtain ⟨η, e⟩ := rule_loop (all := .lst (rs.map em)) (st := scSt rs) ⟨rs, rfl⟩ rs none none h3
  have e1 : b_Scheme_init [some (.cell 0), some (.fz (.lst (rs.map em))), none, none] [.obj "Scheme" []] = .ok (.nx, η, scSt rs) := by
    delta b_Scheme_init
    refine s_seq (η' := [some (.cell 0), some (.fz (.lst (rs.map em))), none, none]) (s1 := scSt rs) rfl ?_
    have el : dAp lenO (dCons (dFld "rules" ["Scheme"] (dVar 0)) dNil) [some (.cell 0), some (.fz (.lst (rs.map em))), none, none] (scSt rs) = .ok (fe (lenI rs), scSt rs) := by
      refine e_ap (e_cons (a := .fz (.lst (rs.map em))) (s1 := scSt rs) rfl e_nil) ?_
      exact (ev_len (L := []) (xs := rs) pk_fz) _ (Own.nil _)
    refine s_seq (s_iff (e_tru (e_bin el rfl rfl) (tru_bl ?_)) s_skip) (s_forL (a := .fz (.lst (rs.map em))) (s1 := scSt rs) rfl rfl rfl e)
    exact decide_eq_false (by show ¬ (4 : Int) < (rs.length : Int); omega)
  show endF true 1 (b_Scheme_init [some (.cell 0), some (.fz (.lst (rs.map em))), none, none] [.obj "Scheme" []]) = _
  rw [e1]
  rfl
end G
end
section
set_option Elab.async false
set_option linter.all false
set_option maxRecDepth 100000
set_option maxHeartbeats 0
namespace G
open PySem L2 M N
structure Crew where
  workers_ : List (T2 Str Str)
instance : Em Crew := ⟨fun h => .obj "Crew" [("_workers", em h.workers_)]⟩
instance : NoN Crew := ⟨fun _ => ⟨rfl, rfl, rfl⟩⟩
structure KCrew where
instance : Em KCrew := ⟨fun _ => .cls "Crew"⟩
structure Scheme where
  rules : List (T2 (Tu Str) (Tu (T3 (Tu Str) Str Int)))
instance : Em Scheme := ⟨fun h => .obj "Scheme" [("rules", em h.rules)]⟩
instance : NoN Scheme := ⟨fun _ => ⟨rfl, rfl, rfl⟩⟩
structure KScheme where
instance : Em KScheme := ⟨fun _ => .cls "Scheme"⟩
noncomputable def n_l_size (stream : List Int) : Rs (Int × List Int) :=
((n_l_draw stream (10 : Int)).bind fun g_ => (idx ([(1 : Int), (2 : Int), (3 : Int), (3 : Int), (4 : Int), (4 : Int), (4 : Int), (4 : Int), (4 : Int), (5 : Int)] : List Int) g_.1).bind fun v => Rs.ok (v, g_.2)).bind fun g => Rs.ok (g.1, g.2)
noncomputable def n_l_makes_1  (s : (List Int) × (List Str)) (x : Int) : Rs ((List Int) × (List Str)) :=
((n_l_draw s.1 (5 : Int)).bind fun g_ => (idx ([("a" : Str), ("b" : Str), ("a" : Str), ("b" : Str), ("any" : Str)] : List Str) g_.1).bind fun v => Rs.ok (v, g_.2)).bind fun g_2 => (app s.2 g_2.1).bind fun makes =>
Rs.ok (g_2.2, makes)
noncomputable def n_l_makes (stream : List Int) (size : Int) : Rs (List Str × List Int) :=
(Rs.ok ([] : List Str)).bind fun makes =>
((rng1 size).bind fun xs => foldRs (n_l_makes_1) xs (stream, makes)).bind fun (q_q : (List Int) × (List Str)) =>
Rs.ok (q_q.2, q_q.1)
noncomputable def n_l_group (stream : List Int) : Rs (Tu Str × List Int) :=
(n_l_draw stream (6 : Int)).bind fun pick =>
(if ((decide (pick.1 = (0 : Int))) || (decide (pick.1 = (5 : Int)))) = true then
Rs.ok (((⟨[("any" : Str)]⟩ : Tu Str) : Tu Str), pick.2)
else
((idx ([("a" : Str), ("b" : Str), ("any" : Str), ("c" : Str)] : List Str) (pick.1 - (1 : Int))).bind fun g_ => Rs.ok (⟨[("make" : Str), g_]⟩ : Tu Str)).bind fun g => Rs.ok (g, pick.2))
noncomputable def n_l_rule_1  (s : (List Int) × (List (T3 (Tu Str) Str Int))) (x : Int) : Rs ((List Int) × (List (T3 (Tu Str) Str Int))) :=
(n_l_group s.1).bind fun seen =>
((n_l_draw seen.2 (2 : Int)).bind fun g_ => (idx ([("<" : Str), (">=" : Str)] : List Str) g_.1).bind fun v => Rs.ok (v, g_.2)).bind fun sign =>
(((n_l_draw sign.2 (8 : Int)).bind fun g_2 => (idx ([(1 : Int), (1 : Int), (2 : Int), (2 : Int), (3 : Int), (1 : Int), (2 : Int), (4 : Int)] : List Int) g_2.1).bind fun v => Rs.ok (v, g_2.2)).bind fun g_3 => Rs.ok ((⟨seen.1, sign.1, g_3.1⟩ : T3 (Tu Str) Str Int), g_3.2)).bind fun g_4 => (app s.2 g_4.1).bind fun bounds =>
Rs.ok (g_4.2, bounds)
noncomputable def n_l_rule (stream : List Int) : Rs (T2 (Tu Str) (Tu (T3 (Tu Str) Str Int)) × List Int) :=
(n_l_group stream).bind fun group =>
(Rs.ok ([] : List (T3 (Tu Str) Str Int))).bind fun bounds =>
(((n_l_draw group.2 (8 : Int)).bind fun g_ => (idx ([(0 : Int), (0 : Int), (1 : Int), (1 : Int), (1 : Int), (2 : Int), (2 : Int), (3 : Int)] : List Int) g_.1).bind fun v => Rs.ok (v, g_.2)).bind fun g_2 => (rng1 g_2.1).bind fun xs => foldRs (n_l_rule_1) xs (g_2.2, bounds)).bind fun (q_q : (List Int) × (List (T3 (Tu Str) Str Int))) =>
Rs.ok (((⟨group.1, (Tu.mk q_q.2)⟩ : T2 (Tu Str) (Tu (T3 (Tu Str) Str Int))) : T2 (Tu Str) (Tu (T3 (Tu Str) Str Int))), q_q.1)
noncomputable def n_l_rules_1  (s : (List Int) × (List (T2 (Tu Str) (Tu (T3 (Tu Str) Str Int))))) (x : Int) : Rs ((List Int) × (List (T2 (Tu Str) (Tu (T3 (Tu Str) Str Int))))) :=
(n_l_rule s.1).bind fun g_ => (app s.2 g_.1).bind fun rules =>
Rs.ok (g_.2, rules)
noncomputable def n_l_rules (stream : List Int) : Rs (List (T2 (Tu Str) (Tu (T3 (Tu Str) Str Int))) × List Int) :=
(Rs.ok ([] : List (T2 (Tu Str) (Tu (T3 (Tu Str) Str Int))))).bind fun rules =>
(((n_l_draw stream (10 : Int)).bind fun g_ => (idx ([(0 : Int), (1 : Int), (1 : Int), (2 : Int), (2 : Int), (2 : Int), (3 : Int), (3 : Int), (4 : Int), (1 : Int)] : List Int) g_.1).bind fun v => Rs.ok (v, g_.2)).bind fun g_2 => (rng1 g_2.1).bind fun xs => foldRs (n_l_rules_1) xs (g_2.2, rules)).bind fun (q_q : (List Int) × (List (T2 (Tu Str) (Tu (T3 (Tu Str) Str Int))))) =>
Rs.ok (q_q.2, q_q.1)
def n_new_crew (ws : List (T2 Str Str)) : Rs Crew := if crewOk ws = true then .ok ⟨ws⟩ else .stuck
noncomputable def n_l_workers_1 (makes : List Str) (turn : Int) (names : List Str) (s : (List (T2 Str Str))) (x : Int) : Rs (List (T2 Str Str)) :=
((((((mulM x (5 : Int)).bind fun g_ => Rs.ok (g_ + turn)).bind fun g_2 => Rs.ok g_2).bind fun g_3 => modM g_3 (6 : Int)).bind fun g_4 => idx names g_4).bind fun g_5 => (idx makes x).bind fun g_6 => Rs.ok (⟨g_5, g_6⟩ : T2 Str Str)).bind fun g_7 => (app s g_7).bind fun workers =>
Rs.ok workers
noncomputable def n_l_workers (makes : List Str) (turn : Int) : Rs (List (T2 Str Str)) :=
(Rs.ok (([("m" : Str), ("kb" : Str), ("a" : Str), ("zzz" : Str), ("if" : Str), ("any" : Str)] : List Str) : List Str)).bind fun names =>
(Rs.ok ([] : List (T2 Str Str))).bind fun workers =>
((rng1 (lenI makes)).bind fun xs => foldRs (n_l_workers_1 makes turn names) xs workers).bind fun (q_ : (List (T2 Str Str))) =>
Rs.ok q_
def n_new_scheme (rs : List (T2 (Tu Str) (Tu (T3 (Tu Str) Str Int)))) : Rs Scheme := if schemeOk rs = true then .ok ⟨rs⟩ else .stuck
noncomputable def n_l_ranking_1  (s : (List Int) × (List Int) × (List Int)) (x : Int) : Rs ((List Int) × (List Int) × (List Int)) :=
((n_l_draw s.1 (lenI s.2.1)).bind fun g => (popN s.2.1 g.1).bind fun r => Rs.ok (r.1, (r.2, g.2))).bind fun g_ => (app s.2.2 g_.1).bind fun ranking =>
Rs.ok (g_.2.2, g_.2.1, ranking)
noncomputable def n_l_ranking (stream : List Int) (size : Int) : Rs (List Int × List Int) :=
(lrg size).bind fun left =>
(Rs.ok ([] : List Int)).bind fun ranking =>
((rng1 size).bind fun xs => foldRs (n_l_ranking_1) xs (stream, left, ranking)).bind fun (q_q_q : (List Int) × (List Int) × (List Int)) =>
Rs.ok (q_q_q.2.2, q_q_q.1)
noncomputable def n_l_spot (size : Int) (mask : Int) : Rs (Tu Int) :=
(Rs.ok (([(1 : Int), (2 : Int), (4 : Int), (8 : Int), (16 : Int), (32 : Int)] : List Int) : List Int)).bind fun powers =>
((Rs.ok size).bind fun g => (rng1 g).bind fun xs => calm (lcN (fun (at_ : Int) => (((((idx powers at_).bind fun g_ => fdivM mask g_).bind fun g_2 => Rs.ok g_2).bind fun g_3 => modM g_3 (2 : Int)).bind fun g_4 => Rs.ok (decide (g_4 = (1 : Int)))).bind fun g_5 => Rs.ok g_5) (fun (at_ : Int) => Rs.ok at_) xs [])).bind fun g_6 => Rs.ok (Tu.mk g_6)
noncomputable def n_l_spots_1 (size : Int) (full : Int) (powers : List Int) (s : Int × (List Int) × (List (Tu Int))) (x : Int) : Rs (Int × (List Int) × (List (Tu Int))) :=
(n_l_draw s.2.1 (4 : Int)).bind fun pick =>
(Rs.ok (s.1 : Int)).bind fun later =>
((if (decide (pick.1 = (3 : Int))) = true then
((n_l_draw pick.2 full).bind fun g_ => Rs.ok (((1 : Int) + g_.1), g_.2)).bind fun later2 =>
Rs.ok (later2.1, later2.2)
else
(if (decide ((0 : Int) < pick.1)) = true then
((n_l_draw pick.2 size).bind fun g_2 => (idx powers g_2.1).bind fun v => Rs.ok (v, g_2.2)).bind fun bit =>
(Rs.ok ((s.1 + bit.1) : Int)).bind fun later3 =>
(((((fdivM s.1 bit.1).bind fun g_3 => Rs.ok g_3).bind fun g_4 => modM g_4 (2 : Int)).bind fun g_5 => Rs.ok (decide (g_5 = (1 : Int)))).bind fun g_6 => Rs.ok g_6).bind fun b_ => (if b_ = true then
(Rs.ok ((s.1 - bit.1) : Int)).bind fun later4 =>
Rs.ok (later4, bit.2)
else
Rs.ok (later3, bit.2))
else
Rs.ok (later, pick.2)))).bind fun (later_q : Int × (List Int)) =>
((if (decide ((0 : Int) < later_q.1)) = true then
(Rs.ok (later_q.1 : Int)).bind fun mask2 =>
Rs.ok mask2
else
Rs.ok s.1)).bind fun (mask : Int) =>
(calm (n_l_spot size mask)).bind fun g_7 => (app s.2.2 g_7).bind fun spots =>
Rs.ok (mask, later_q.2, spots)
noncomputable def n_l_spots (stream : List Int) (size : Int) (many : Int) : Rs (List (Tu Int) × List Int) :=
(idx ([(1 : Int), (3 : Int), (7 : Int), (15 : Int), (31 : Int), (63 : Int)] : List Int) (size - (1 : Int))).bind fun full =>
(Rs.ok (([(1 : Int), (2 : Int), (4 : Int), (8 : Int), (16 : Int), (32 : Int)] : List Int) : List Int)).bind fun powers =>
((n_l_draw stream full).bind fun g_ => Rs.ok (((1 : Int) + g_.1), g_.2)).bind fun mask =>
((calm (n_l_spot size mask.1)).bind fun g_2 => Rs.ok ([g_2] : List (Tu Int))).bind fun spots =>
((rng1 (many - (1 : Int))).bind fun xs => foldRs (n_l_spots_1 size full powers) xs (mask.1, mask.2, spots)).bind fun (mask_q_q : Int × (List Int) × (List (Tu Int))) =>
Rs.ok (mask_q_q.2.2, mask_q_q.2.1)
noncomputable def n_l_in_group (group : Tu Str) (make : Str) : Rs Bool :=
(eqM (em (group : Tu Str)) (em ((⟨("any" : Str)⟩ : T1 Str) : T1 Str))).bind fun b => if b = true then Rs.ok true else (idx group.l (1 : Int)).bind fun g_ => eqM (em (g_ : Str)) (em (make : Str))
noncomputable def n_l_takes_2 (q0 : List Str) (s : Bool) (x : T3 (Tu Str) Str Int) : Rs Bool :=
((calm (lcN (fun (other : Str) => (n_l_in_group x.a other).bind fun g_ => Rs.ok g_) (fun (other : Str) => Rs.ok other) q0 [])).bind fun g_2 => Rs.ok (lenI g_2)).bind fun many =>
(eqM (em (x.b : Str)) (em (("<" : Str) : Str))).bind fun below =>
(if (!decide (below = (decide (many < x.c)))) = true then
(Rs.ok (false : Bool)).bind fun fits =>
Rs.ok fits
else
Rs.ok s)
noncomputable def n_l_takes_1 (make : Str) (q0 : List Str) (s : Unit) (x : T2 (Tu Str) (Tu (T3 (Tu Str) Str Int))) : Rs (LC (Unit) (Bool × List Str)) :=
(calm (n_l_in_group x.a make)).bind fun fits =>
(foldRs (n_l_takes_2 q0) x.b.l fits).bind fun (fits2 : Bool) =>
(if fits2 = true then
Rs.ok (LC.rt ((true : Bool), q0))
else
.ok (.nx ()))
noncomputable def n_l_takes (rules : List (T2 (Tu Str) (Tu (T3 (Tu Str) Str Int)))) (make : Str) (seen : List Str) : Rs (Bool × List Str) :=
(loopRs (n_l_takes_1 make seen) rules ()).bindL (fun (u_ : Unit) =>
Rs.ok ((false : Bool), seen)) (fun v => v)
noncomputable def n_l_takes_F_2 (seen : List Str) (s : Bool) (x : T3 (Tu Str) Str Int) : Rs Bool :=
(((Rs.ok seen).bind fun xs => calm (lcN (fun (other : Str) => (n_l_in_group x.a other).bind fun g_ => Rs.ok g_) (fun (other : Str) => Rs.ok other) xs [])).bind fun g_2 => Rs.ok (lenI g_2)).bind fun many =>
(eqM (em (x.b : Str)) (em (("<" : Str) : Str))).bind fun below =>
(if (!decide (below = (decide (many < x.c)))) = true then
(Rs.ok (false : Bool)).bind fun fits =>
Rs.ok fits
else
Rs.ok s)
noncomputable def n_l_takes_F_1 (make : Str) (seen : List Str) (s : Unit) (x : T2 (Tu Str) (Tu (T3 (Tu Str) Str Int))) : Rs (LC (Unit) (Bool)) :=
(n_l_in_group x.a make).bind fun fits =>
(foldRs (n_l_takes_F_2 seen) x.b.l fits).bind fun (fits2 : Bool) =>
(if fits2 = true then
Rs.ok (LC.rt (true : Bool))
else
.ok (.nx ()))
noncomputable def n_l_takes_F (rules : List (T2 (Tu Str) (Tu (T3 (Tu Str) Str Int)))) (make : Str) (seen : List Str) : Rs Bool :=
(loopRs (n_l_takes_F_1 make seen) rules ()).bindL (fun (u_ : Unit) =>
Rs.ok (false : Bool)) (fun v => v)
noncomputable def n_l_steps_1 (makes : List Str) (rules : List (T2 (Tu Str) (Tu (T3 (Tu Str) Str Int)))) (s : (List Str) × (List (T2 Int Bool))) (x : Int) : Rs ((List Str) × (List (T2 Int Bool))) :=
(((idx makes x).bind fun g_ => n_l_takes rules g_ s.1).bind fun g_2 => Rs.ok ((⟨x, g_2.1⟩ : T2 Int Bool), g_2.2)).bind fun g_3 => (app s.2 g_3.1).bind fun steps =>
(idx makes x).bind fun g_4 => (app g_3.2 g_4).bind fun seen =>
Rs.ok (seen, steps)
noncomputable def n_l_steps (makes : List Str) (rules : List (T2 (Tu Str) (Tu (T3 (Tu Str) Str Int)))) (lineup : List Int) : Rs (List (T2 Int Bool)) :=
(Rs.ok ([] : List Str)).bind fun seen =>
(Rs.ok ([] : List (T2 Int Bool))).bind fun steps =>
(foldRs (n_l_steps_1 makes rules) lineup (seen, steps)).bind fun (q_q : (List Str) × (List (T2 Int Bool))) =>
Rs.ok q_q.2
noncomputable def n_l_first_1  (s : Unit) (x : T2 Int Bool) : Rs (LC (Unit) (Int)) :=
(if x.b = true then
Rs.ok (LC.rt (x.a : Int))
else
.ok (.nx ()))
noncomputable def n_l_first (steps : List (T2 Int Bool)) : Rs Int :=
(loopRs (n_l_first_1) steps ()).bindL (fun (u_ : Unit) =>
(idx steps (0 : Int)).bind fun g_ => Rs.ok g_.a) (fun v => v)
noncomputable def n_present (ranking : List Int) (yard : Tu Int) : Rs (List Int) :=
(Rs.ok ranking).bind fun xs => calm (lcN (fun (worker : Int) => Rs.ok (decide (worker ∈ yard.l))) (fun (worker : Int) => Rs.ok worker) xs [])
noncomputable def n_l_same_steps_1  (s : Unit) (x : T2 Int Bool) : Rs (LC (Unit) (Bool)) :=
(if ((!true) || (false || (!true))) = true then
Rs.ok (LC.rt (false : Bool))
else
.ok (.nx ()))
noncomputable def n_l_same_steps (found : List (T2 Int Bool)) (steps : List (T2 Int Bool)) : Rs Bool :=
(if ((!true) || (!decide (found = steps))) = true then
Rs.ok (false : Bool)
else
(loopRs (n_l_same_steps_1) found ()).bindL (fun (u_ : Unit) =>
Rs.ok (true : Bool)) (fun v => v))
noncomputable def n_Crew_len (self : Crew) : Rs Int :=
Rs.ok ((lenI self.workers_) : Int)
noncomputable def n_check_ranking (crew : Crew) (ranking : List Int) : Rs Unit :=
(((((calm (n_Crew_len crew)).bind fun n => if smallI 1000000000 n = true ∧ 0 ≤ n then Rs.ok n else .stuck).bind fun g_ => lrg g_).bind fun g_2 => Rs.ok (!decide ((Kd.sortI ranking) = g_2))).bind fun g_3 => Rs.ok g_3).bind fun b_ => (if b_ = true then
Rs.exc "BadRanking" none
else
Rs.ok ())
noncomputable def n_check_yards_1 (crew : Crew) (s : Unit) (x : Tu Int) : Rs Unit :=
((Rs.ok (!(!x.l.isEmpty))).bind fun b => if b = true then Rs.ok true else (((sortSetN x.l).bind fun g_ => Rs.ok (!decide (x.l = g_))).bind fun g_2 => Rs.ok g_2).bind fun b => if b = true then Rs.ok true else (((idx x.l (0 : Int)).bind fun g_3 => Rs.ok (decide (g_3 < (0 : Int)))).bind fun g_4 => Rs.ok g_4).bind fun b => if b = true then Rs.ok true else ((idx x.l (-(1 : Int))).bind fun g_5 => ((calm (n_Crew_len crew)).bind fun n => if smallI 1000000000 n = true ∧ 0 ≤ n then Rs.ok n else .stuck).bind fun g_6 => Rs.ok (decide (g_6 ≤ g_5))).bind fun g_7 => Rs.ok g_7).bind fun b_ => (if b_ = true then
Rs.exc "BadYard" none
else
Rs.ok ())
noncomputable def n_check_yards (crew : Crew) (yards : List (Tu Int)) : Rs Unit :=
(foldRs (n_check_yards_1 crew) yards ()).bind fun (u_ : Unit) =>
Rs.ok ()
noncomputable def n_Crew_make_of (self : Crew) (worker : Int) : Rs Str :=
(idx self.workers_ worker).bind fun g_ => Rs.ok g_.b
noncomputable def n_belongs (make : Str) (group : Tu Str) : Rs Bool :=
(eqM (em (group : Tu Str)) (em ((⟨("any" : Str)⟩ : T1 Str) : T1 Str))).bind fun b => if b = true then Rs.ok true else (idx group.l (1 : Int)).bind fun g_ => eqM (em (g_ : Str)) (em (make : Str))
noncomputable def n_bound_holds (bound : T3 (Tu Str) Str Int) (seen : List Str) : Rs Bool :=
(Rs.ok bound).bind fun t_ =>
(((Rs.ok seen).bind fun xs => calm (lcN (fun (make : Str) => (n_belongs make t_.a).bind fun g_ => Rs.ok g_) (fun (make : Str) => Rs.ok make) xs [])).bind fun g_2 => Rs.ok (lenI g_2)).bind fun count =>
((eqM (em (t_.b : Str)) (em (("<" : Str) : Str))).bind fun g_3 => Rs.ok g_3).bind fun b_ => (if b_ = true then
Rs.ok ((decide (count < t_.c)) : Bool)
else
Rs.ok ((decide (t_.c ≤ count)) : Bool))
noncomputable def n_Scheme_takes_1 (make : Str) (seen : List Str) (s : Unit) (x : T2 (Tu Str) (Tu (T3 (Tu Str) Str Int))) : Rs (LC (Unit) (Bool)) :=
(((n_belongs make x.a).bind fun g_ => Rs.ok g_).bind fun b => if b = true then (((Rs.ok x.b).bind fun xs => calm (lcN yes (fun (bound : T3 (Tu Str) Str Int) => n_bound_holds bound seen) xs.l [])).bind fun g_2 => Rs.ok (g_2.all id)).bind fun g_3 => Rs.ok g_3 else Rs.ok false).bind fun b_ => (if b_ = true then
Rs.ok (LC.rt (true : Bool))
else
.ok (.nx ()))
noncomputable def n_Scheme_takes (self : Scheme) (make : Str) (seen : List Str) : Rs Bool :=
(loopRs (n_Scheme_takes_1 make seen) self.rules ()).bindL (fun (u_ : Unit) =>
Rs.ok (false : Bool)) (fun v => v)
noncomputable def n_walked (crew : Crew) (scheme : Scheme) (lineup : List Int) : Rs (List (T2 Int Bool)) :=
((Rs.ok lineup).bind fun xs => calm (lcN yes (fun (worker : Int) => (Rs.ok crew).bind fun o_ => n_Crew_make_of o_ worker) xs [])).bind fun makes =>
calm (lcN yes (fun (x_ : T2 Int Int) => ((Rs.ok scheme).bind fun o_2 => (idx makes x_.a).bind fun g_ => n_Scheme_takes o_2 g_ (cut makes none (some x_.a))).bind fun g_2 => Rs.ok (⟨x_.b, g_2⟩ : T2 Int Bool)) (enm 0 lineup) [])
noncomputable def n_walk (crew : Crew) (scheme : Scheme) (ranking : List Int) (yard : Tu Int) : Rs (List (T2 Int Bool)) :=
(n_check_ranking crew ranking).bind fun u_ =>
(n_check_yards crew ([yard] : List (Tu Int))).bind fun u_2 =>
(n_present ranking yard).bind fun g_ => n_walked crew scheme g_
noncomputable def n_l_is_worker (found : Int) (worker : Int) : Rs Bool :=
Rs.ok ((true && ((!false) && (decide (found = worker)))) : Bool)
noncomputable def n_first_taken_1  (s : Unit) (x : T2 Int Bool) : Rs (LC (Unit) (Int)) :=
(if x.b = true then
Rs.ok (LC.rt (x.a : Int))
else
.ok (.nx ()))
noncomputable def n_first_taken (steps : List (T2 Int Bool)) : Rs Int :=
(loopRs (n_first_taken_1) steps ()).bindL (fun (u_ : Unit) =>
(idx steps (0 : Int)).bind fun g_ => Rs.ok g_.a) (fun v => v)
noncomputable def n_holder (crew : Crew) (scheme : Scheme) (ranking : List Int) (yard : Tu Int) : Rs Int :=
(n_walk crew scheme ranking yard).bind fun g_ => n_first_taken g_
noncomputable def n_l_rearranged_1 (lineup : List Int) (s : (List Int) × (List Int)) (x : Int) : Rs ((List Int) × (List Int)) :=
(if (decide (x ∈ lineup)) = true then
(popN s.1 (0 : Int)).bind fun g_ => (app s.2 g_.1).bind fun mixed =>
Rs.ok (g_.2, mixed)
else
(Rs.ok x).bind fun g_2 => (app s.2 g_2).bind fun mixed2 =>
Rs.ok (s.1, mixed2))
noncomputable def n_l_rearranged (second : List Int) (lineup : List Int) : Rs (List Int) :=
(Rs.ok lineup).bind fun rest =>
(Rs.ok ([] : List Int)).bind fun mixed =>
(foldRs (n_l_rearranged_1 lineup) second (rest, mixed)).bind fun (q_q : (List Int) × (List Int)) =>
Rs.ok q_q.2
noncomputable def n_l_toggled (spot : Tu Int) (worker : Int) : Rs (Tu Int) :=
(if (decide (worker ∈ spot.l)) = true then
((Rs.ok spot).bind fun xs => calm (lcN (fun (other : Int) => Rs.ok (!decide (other = worker))) (fun (other : Int) => Rs.ok other) xs.l [])).bind fun g_ => Rs.ok (Tu.mk g_)
else
((cat spot.l ([worker] : List Int)).bind fun g_2 => Rs.ok (Kd.sortI g_2)).bind fun g_3 => Rs.ok (Tu.mk g_3))
noncomputable def n_l_yard_fits_1 (hands : Crew) (plan : Scheme) (spot : Tu Int) (worker : Int) (given : List Int) (s : Unit) (x : Int) : Rs (LC (Unit) (Bool)) :=
((n_l_toggled spot x).bind fun g_ => n_holder hands plan given g_).bind fun found =>
(((n_l_is_worker found worker).bind fun g_2 => Rs.ok g_2).bind fun b_ => Rs.ok !b_).bind fun b_2 => (if b_2 = true then
Rs.ok (LC.rt (false : Bool))
else
.ok (.nx ()))
noncomputable def n_l_yard_fits (hands : Crew) (plan : Scheme) (makes : List Str) (rules : List (T2 (Tu Str) (Tu (T3 (Tu Str) Str Int)))) (ranking : List Int) (second : List Int) (spot : Tu Int) : Rs Bool :=
((Rs.ok ranking).bind fun xs => calm (lcN (fun (at_ : Int) => Rs.ok (decide (at_ ∈ spot.l))) (fun (at_ : Int) => Rs.ok at_) xs [])).bind fun lineup =>
(n_l_steps makes rules lineup).bind fun steps =>
(n_l_first steps).bind fun worker =>
(Rs.ok (ranking : List Int)).bind fun given =>
(((n_present given spot).bind fun g_ => Rs.ok (!decide (g_ = lineup))).bind fun g_2 => Rs.ok g_2).bind fun b_ => (if b_ = true then
Rs.ok (false : Bool)
else
((((n_walk hands plan given spot).bind fun g_3 => n_l_same_steps g_3 steps).bind fun g_4 => Rs.ok g_4).bind fun b_2 => Rs.ok !b_2).bind fun b_3 => (if b_3 = true then
Rs.ok (false : Bool)
else
((((n_holder hands plan given spot).bind fun g_5 => n_l_is_worker g_5 worker).bind fun g_6 => Rs.ok g_6).bind fun b_4 => Rs.ok !b_4).bind fun b_5 => (if b_5 = true then
Rs.ok (false : Bool)
else
(n_l_rearranged second lineup).bind fun mixed =>
((((n_holder hands plan mixed spot).bind fun g_7 => n_l_is_worker g_7 worker).bind fun g_8 => Rs.ok g_8).bind fun b_6 => Rs.ok !b_6).bind fun b_7 => (if b_7 = true then
Rs.ok (false : Bool)
else
(if (decide ((⟨worker, true⟩ : T2 Int Bool) ∈ steps)) = true then
((((idxLN ranking worker).bind fun g_9 => Rs.ok (g_9 + (1 : Int))).bind fun g_10 => Rs.ok (cut ranking (some g_10) none)).bind fun xs => loopRs (n_l_yard_fits_1 hands plan spot worker given) xs ()).bindL (fun (u_ : Unit) =>
Rs.ok ((decide (given = ranking)) : Bool)) (fun v => v)
else
Rs.ok ((decide (given = ranking)) : Bool))))))
noncomputable def n_holders (crew : Crew) (scheme : Scheme) (ranking : List Int) (yards : List (Tu Int)) : Rs (List Int) :=
(n_check_ranking crew ranking).bind fun u_ =>
(n_check_yards crew yards).bind fun u_2 =>
(Rs.ok yards).bind fun xs => calm (lcN yes (fun (yard : Tu Int) => ((n_present ranking yard).bind fun g_ => n_walked crew scheme g_).bind fun g_2 => n_first_taken g_2) xs [])
noncomputable def n_l_bad_ranking (stream : List Int) (ranking : List Int) : Rs (List Int × List Int) :=
(Rs.ok ((lenI ranking) : Int)).bind fun size =>
(n_l_draw stream size).bind fun place =>
(n_l_draw place.2 (5 : Int)).bind fun pick =>
(if (decide (pick.1 = (0 : Int))) = true then
(cat (cut ranking none (some place.1)) (cut ranking (some (place.1 + (1 : Int))) none)).bind fun g => Rs.ok (g, pick.2)
else
(if (decide (pick.1 = (1 : Int))) = true then
(((idx ranking place.1).bind fun g_ => Rs.ok ([g_] : List Int)).bind fun g_2 => cat ranking g_2).bind fun g => Rs.ok (g, pick.2)
else
(if (decide (pick.1 = (2 : Int))) = true then
((cat (cut ranking none (some place.1)) ([size] : List Int)).bind fun g_3 => cat g_3 (cut ranking (some (place.1 + (1 : Int))) none)).bind fun g => Rs.ok (g, pick.2)
else
(if (decide (pick.1 = (3 : Int))) = true then
((cat (cut ranking none (some place.1)) ([(-(1 : Int))] : List Int)).bind fun g_4 => cat g_4 (cut ranking (some (place.1 + (1 : Int))) none)).bind fun g => Rs.ok (g, pick.2)
else
(cat ranking ([size] : List Int)).bind fun g => Rs.ok (g, pick.2)))))
noncomputable def n_l_bad_spot (stream : List Int) (size : Int) : Rs (Tu Int × List Int) :=
(n_l_draw stream size).bind fun worker =>
(Rs.ok ((worker.1 + (1 : Int)) : Int)).bind fun one =>
((n_l_draw worker.2 (8 : Int)).bind fun g_ => (idx ([(⟨[]⟩ : Tu Int), (⟨[worker.1, worker.1]⟩ : Tu Int), (⟨[worker.1, size]⟩ : Tu Int), (⟨[(-(1 : Int)), worker.1]⟩ : Tu Int), (⟨[size]⟩ : Tu Int), (⟨[(-(1 : Int))]⟩ : Tu Int), (⟨[one, worker.1]⟩ : Tu Int), (⟨[worker.1, one, one]⟩ : Tu Int)] : List (Tu Int)) g_.1).bind fun v => Rs.ok (v, g_.2)).bind fun g => Rs.ok (g.1, g.2)
noncomputable def n_l_refusal (hands : Crew) (plan : Scheme) (ranking : List Int) (spots : List (Tu Int)) (which : Int) : Rs Str :=
(Rs.ok (("" : Str) : Str)).bind fun told =>
(tryRs ((if (decide (which = (0 : Int))) = true then
((idx spots (-(1 : Int))).bind fun g_ => n_walk hands plan ranking g_).bind fun u_ =>
Rs.ok told
else
(if (decide (which = (1 : Int))) = true then
((idx spots (-(1 : Int))).bind fun g_2 => n_holder hands plan ranking g_2).bind fun u_2 =>
Rs.ok told
else
(n_holders hands plan ranking spots).bind fun u_3 =>
Rs.ok told))) (hdRs [("BadCrew", false), ("BadLine", false), ("BadName", false), ("BadRanking", true), ("BadScheme", false), ("BadYard", false), ("DuplicateName", false)] (fun c fs => (Rs.ok (("ranking" : Str) : Str)).bind fun told3 =>
Rs.ok told3) (hdRs [("BadCrew", false), ("BadLine", false), ("BadName", false), ("BadRanking", false), ("BadScheme", false), ("BadYard", true), ("DuplicateName", false)] (fun c fs => (Rs.ok (("yard" : Str) : Str)).bind fun told4 =>
Rs.ok told4) (hdRs [("BadCrew", true), ("BadLine", true), ("BadName", true), ("BadRanking", true), ("BadScheme", true), ("BadYard", true), ("DuplicateName", true)] (fun c fs => (Rs.ok (("other" : Str) : Str)).bind fun told5 =>
Rs.ok told5) excRs)))).bind fun (told2 : Str) =>
Rs.ok (told2 : Str)
noncomputable def n_l_refuses_1 (hands : Crew) (plan : Scheme) (ranking : List Int) (spots : List (Tu Int)) (bad : List Int) (q1 : List (Tu Int)) (q2 : List (Tu Int)) (q0 : List Int) (s : Unit) (x : Int) : Rs (LC (Unit) (Bool × List Int)) :=
(Rs.ok ()).bind fun _ =>
(if (decide (x = (2 : Int))) = true then
(Rs.ok ()).bind fun _ =>
(((calm (n_l_refusal hands plan bad spots x)).bind fun g_ => neM (em (g_ : Str)) (em (("ranking" : Str) : Str))).bind fun g_2 => Rs.ok g_2).bind fun b_ => (if b_ = true then
Rs.ok (LC.rt ((false : Bool), q0))
else
(((calm (n_l_refusal hands plan bad q2 x)).bind fun g_3 => neM (em (g_3 : Str)) (em (("ranking" : Str) : Str))).bind fun g_4 => Rs.ok g_4).bind fun b_2 => (if b_2 = true then
Rs.ok (LC.rt ((false : Bool), q0))
else
(((calm (n_l_refusal hands plan ranking q2 x)).bind fun g_5 => neM (em (g_5 : Str)) (em (("yard" : Str) : Str))).bind fun g_6 => Rs.ok g_6).bind fun b_3 => (if b_3 = true then
Rs.ok (LC.rt ((false : Bool), q0))
else
(((calm (n_l_refusal hands plan ranking spots x)).bind fun g_7 => neM (em (g_7 : Str)) (em (("" : Str) : Str))).bind fun g_8 => Rs.ok g_8).bind fun b_4 => (if b_4 = true then
Rs.ok (LC.rt ((false : Bool), q0))
else
.ok (.nx ())))))
else
(((calm (n_l_refusal hands plan bad spots x)).bind fun g_9 => neM (em (g_9 : Str)) (em (("ranking" : Str) : Str))).bind fun g_10 => Rs.ok g_10).bind fun b_5 => (if b_5 = true then
Rs.ok (LC.rt ((false : Bool), q0))
else
(((calm (n_l_refusal hands plan bad q1 x)).bind fun g_11 => neM (em (g_11 : Str)) (em (("ranking" : Str) : Str))).bind fun g_12 => Rs.ok g_12).bind fun b_6 => (if b_6 = true then
Rs.ok (LC.rt ((false : Bool), q0))
else
(((calm (n_l_refusal hands plan ranking q1 x)).bind fun g_13 => neM (em (g_13 : Str)) (em (("yard" : Str) : Str))).bind fun g_14 => Rs.ok g_14).bind fun b_7 => (if b_7 = true then
Rs.ok (LC.rt ((false : Bool), q0))
else
(((calm (n_l_refusal hands plan ranking spots x)).bind fun g_15 => neM (em (g_15 : Str)) (em (("" : Str) : Str))).bind fun g_16 => Rs.ok g_16).bind fun b_8 => (if b_8 = true then
Rs.ok (LC.rt ((false : Bool), q0))
else
.ok (.nx ()))))))
noncomputable def n_l_refuses (stream : List Int) (hands : Crew) (plan : Scheme) (ranking : List Int) (spots : List (Tu Int)) : Rs (Bool × List Int) :=
(n_l_bad_ranking stream ranking).bind fun bad =>
(Rs.ok spots).bind fun wrong =>
(n_l_bad_spot bad.2 (lenI ranking)).bind fun g_ => (lput wrong (-(1 : Int)) g_.1).bind fun wrong2 =>
(Rs.ok wrong2).bind fun many =>
(popE many).bind fun last =>
(n_l_draw g_.2 ((lenI last.2) + (1 : Int))).bind fun g_2 => (insN last.2 g_2.1 last.1).bind fun many2 =>
((rng1 (3 : Int)).bind fun xs => loopRs (n_l_refuses_1 hands plan ranking spots bad.1 wrong2 many2 g_2.2) xs ()).bindL (fun (u_ : Unit) =>
Rs.ok ((true : Bool), g_2.2)) (fun v => v)
noncomputable def n_l_takes_alike (stream : List Int) (plan : Scheme) (rules : List (T2 (Tu Str) (Tu (T3 (Tu Str) Str Int)))) : Rs (Bool × List Int) :=
(Rs.ok (([("a" : Str), ("b" : Str), ("any" : Str), ("c" : Str)] : List Str) : List Str)).bind fun names =>
((n_l_draw stream (4 : Int)).bind fun g_ => (idx names g_.1).bind fun v => Rs.ok (v, g_.2)).bind fun make =>
((n_l_draw make.2 (6 : Int)).bind fun g => (rng1 g.1).bind fun xs => calm (lcNS (fun (s_ : List Int) (k_ : Int) => (n_l_draw s_ (4 : Int)).bind fun g_3 => (idx names g_3.1).bind fun v => Rs.ok (v, g_3.2)) xs [] g.2)).bind fun seen =>
(Rs.ok (seen.1 : List Str)).bind fun given =>
((Rs.ok plan).bind fun o_ => calm (n_Scheme_takes o_ make.1 given)).bind fun found =>
((Rs.ok (!true)).bind fun b => if b = true then Rs.ok true else (neM (em (given : List Str)) (em (seen.1 : List Str))).bind fun g_4 => Rs.ok g_4).bind fun b_ => (if b_ = true then
Rs.ok ((false : Bool), seen.2)
else
((calm (n_l_takes_F rules make.1 seen.1)).bind fun g_5 => Rs.ok (decide (found = g_5))).bind fun g => Rs.ok (g, seen.2))
noncomputable def n_law_1 (makes : List Str) (rules : List (T2 (Tu Str) (Tu (T3 (Tu Str) Str Int)))) (hands : Crew) (plan : Scheme) (ranking : List Int) (second : List Int) (s : Unit) (x : Tu Int) : Rs (LC (Unit) (Bool)) :=
(((n_l_yard_fits hands plan makes rules ranking second x).bind fun g_ => Rs.ok g_).bind fun b_ => Rs.ok !b_).bind fun b_2 => (if b_2 = true then
Rs.ok (LC.rt (false : Bool))
else
.ok (.nx ()))
noncomputable def n_law_2 (makes : List Str) (rules : List (T2 (Tu Str) (Tu (T3 (Tu Str) Str Int)))) (ranking : List Int) (s : (List Int)) (x : Tu Int) : Rs (List Int) :=
((Rs.ok ranking).bind fun xs => calm (lcN (fun (at_ : Int) => Rs.ok (decide (at_ ∈ x.l))) (fun (at_ : Int) => Rs.ok at_) xs [])).bind fun lineup =>
((n_l_steps makes rules lineup).bind fun g_ => n_l_first g_).bind fun g_2 => (app s g_2).bind fun due =>
Rs.ok due
noncomputable def n_law (script : Rol) : Rs Bool :=
(n_l_stream script).bind fun stream =>
(n_l_size stream).bind fun size =>
(n_l_makes size.2 size.1).bind fun makes =>
(n_l_rules makes.2).bind fun rules =>
(((n_l_draw rules.2 (6 : Int)).bind fun g_ => (n_l_workers makes.1 g_.1).bind fun v => Rs.ok (v, g_.2)).bind fun g_2 => (n_new_crew g_2.1).bind fun v => Rs.ok (v, g_2.2)).bind fun hands =>
(n_new_scheme rules.1).bind fun plan =>
(n_l_ranking hands.2 size.1).bind fun ranking =>
(n_l_ranking ranking.2 size.1).bind fun second =>
(((n_l_draw second.2 (4 : Int)).bind fun g_3 => Rs.ok (((1 : Int) + g_3.1), g_3.2)).bind fun g_4 => n_l_spots g_4.2 size.1 g_4.1).bind fun spots =>
(loopRs (n_law_1 makes.1 rules.1 hands.1 plan ranking.1 second.1) spots.1 ()).bindL (fun (u_ : Unit) =>
(Rs.ok ([] : List Int)).bind fun due =>
(foldRs (n_law_2 makes.1 rules.1 ranking.1) spots.1 due).bind fun (q_ : (List Int)) =>
(n_holders hands.1 plan ranking.1 spots.1).bind fun found =>
(if ((!true) || (!decide (found = q_))) = true then
Rs.ok (false : Bool)
else
(((n_l_refuses spots.2 hands.1 plan ranking.1 spots.1).bind fun g_5 => Rs.ok (g_5.1, g_5.2)).bind fun g_6 => Rs.ok (!g_6.1, g_6.2)).bind fun b_ => (if b_.1 = true then
Rs.ok (false : Bool)
else
(n_l_takes_alike b_.2 plan rules.1).bind fun g => Rs.ok g.1))) (fun v => v)
theorem sp_l_size (stream : List Int) : Sp1 (fun s : List Int => Ct.lst (List.map em s)) (n_l_size stream) F_l_size [] [] (.lst (List.map em stream)) := by
  refine sp1_of (fun _ => rfl) rfl [some (.cell 0)] rfl ?_
  unfold n_l_size
  delta b_l_size
  refine ws_last ?_
  refine ws_retK (kr := fun (g : Int × List Int) => (g.1, g.2)) (rep := fun (g : Int × List Int) => fe g.1) (L' := fun (g : Int × List Int) => [(0, .lst (List.map em (g.2 : List Int)))]) ?_ fun _ _ o => qf1 0 rfl o
  exact w_bin (we (ev_ap (ev_cons (ev_k) (ev_cons (ev_k) (ev_cons (ev_k) (ev_cons (ev_k) (ev_cons (ev_k) (ev_cons (ev_k) (ev_cons (ev_k) (ev_cons (ev_k) (ev_cons (ev_k) (ev_cons (ev_k) (ev_nil))))))))))) (ev_lst [em ((1 : Int) : Int), em ((2 : Int) : Int), em ((3 : Int) : Int), em ((3 : Int) : Int), em ((4 : Int) : Int), em ((4 : Int) : Int), em ((4 : Int) : Int), em ((4 : Int) : Int), em ((4 : Int) : Int), em ((5 : Int) : Int)])) (wv (w_call (w_cons (we (ev_var rfl) (w_cons (we (ev_k) (w_nil (w_call1 0 (sp_l_draw stream (10 : Int)) rfl rfl rfl (fun _ => rfl)))))))) fun g_ => (w_withS (L' := fun (z9 : List Int) => [(0, .lst (List.map em (z9 : List Int)))]) (w_idx pk_fz) (fun _ o => o))))
theorem lb_l_makes_1  (o1 : Option D) (n0 : Nat) : ∀ (s : (List Int) × (List Str)) (j : Option D) (x : Int), Wk ([(0, .lst (List.map em (s.1 : List Int))), (n0, .lst (List.map em (s.2 : List Str)))]) (n_l_makes_1 s x) (b_l_makes_1 ([some (.cell 0), o1, some (.cell n0), some (fe (x : Int))])) (QB (fun (s : (List Int) × (List Str)) (j : Option D) => [some (.cell 0), o1, some (.cell n0), j]) (fun s j => [(0, .lst (List.map em (s.1 : List Int))), (n0, .lst (List.map em (s.2 : List Str)))])) X0 := fun s j x => by
  unfold n_l_makes_1
  delta b_l_makes_1
  refine ws_last ?_
  refine ws_append (rep := fun (g : Str × List Int) => fe g.1) (L' := fun (g : Str × List Int) => [(0, .lst (List.map em (g.2 : List Int))), (n0, .lst (List.map em (s.2 : List Str)))]) (v := fun (g_2 : Str × List Int) => (g_2.1 : Str)) (ys := fun (g_2 : Str × List Int) => s.2) (kp := 1) ?_ rfl rfl (fun _ => fz_fz) (fun _ => rfl) fun g_2 makes => ?_
  · exact w_bin (we (ev_ap (ev_cons (ev_k) (ev_cons (ev_k) (ev_cons (ev_k) (ev_cons (ev_k) (ev_cons (ev_k) (ev_nil)))))) (ev_lst [em (("a" : Str) : Str), em (("b" : Str) : Str), em (("a" : Str) : Str), em (("b" : Str) : Str), em (("any" : Str) : Str)])) (wv (w_call (w_cons (we (ev_var rfl) (w_cons (we (ev_k) (w_nil (w_call1 0 (sp_l_draw s.1 (5 : Int)) rfl rfl rfl (fun _ => rfl)))))))) fun g_ => (w_withS (L' := fun (z9 : List Int) => [(0, .lst (List.map em (z9 : List Int))), (n0, .lst (List.map em (s.2 : List Str)))]) (w_idx pk_fz) (fun _ o => o))))
  exact ws_end fun _ o => ⟨.inl rfl, (some (fe (x : Int))), rfl, o⟩
theorem sp_l_makes (stream : List Int) (size : Int) : Sp1 (fun s : List Int => Ct.lst (List.map em s)) (n_l_makes stream size) F_l_makes [] [em (size : Int)] (.lst (List.map em stream)) := by
  refine sp1_of (fun _ => rfl) rfl [some (.cell 0), some (fe (size : Int)), none, none] rfl ?_
  unfold n_l_makes
  delta b_l_makes
  refine ws_last ?_
  refine ws_assoc ?_
  refine ws_setN (w_newL (ev_nil)) fun makes n_ => ?_
  refine ws_assoc ?_
  refine ws_cut (J := Option D) (E := fun (s9 : (List Int) × (List Str)) (j9 : Option D) => [some (.cell 0), some (fe (size : Int)), some (.cell n_), j9]) (Lf := fun s9 j9 => [(0, .lst (List.map em (s9.1 : List Int))), (n_, .lst (List.map em (s9.2 : List Str)))]) ?_ fun q_q j_ => ?_
  · refine w_forR1P (j := size) (ev_var rfl) (fun xs => ?_)
    exact loop_fold (E := fun (s9 : (List Int) × (List Str)) (j9 : Option D) => [some (.cell 0), some (fe (size : Int)), some (.cell n_), j9]) (Lf := fun s9 j9 => [(0, .lst (List.map em (s9.1 : List Int))), (n_, .lst (List.map em (s9.2 : List Str)))]) (h := em) (fun _ _ _ _ => rfl) (lb_l_makes_1 (some (fe (size : Int))) n_) _ (stream, makes) none
  exact ws_ret0 (ev_var rfl) fun _ o => qf1c 0 1 rfl o
theorem sp_l_group (stream : List Int) : Sp1 (fun s : List Int => Ct.lst (List.map em s)) (n_l_group stream) F_l_group [] [] (.lst (List.map em stream)) := by
  refine sp1_of (fun _ => rfl) rfl [some (.cell 0), none] rfl ?_
  unfold n_l_group
  delta b_l_group
  refine ws_last ?_
  refine ws_assoc ?_
  refine ws_set (rep := fun (g : Int × List Int) => fe g.1) (L' := fun (g : Int × List Int) => [(0, .lst (List.map em (g.2 : List Int)))]) ?_ fun pick => ?_
  · exact w_call (w_cons (we (ev_var rfl) (w_cons (we (ev_k) (w_nil (w_call1 0 (sp_l_draw stream (6 : Int)) rfl rfl rfl (fun _ => rfl)))))))
  refine ws_assoc ?_
  refine ws_ifP (ev_or (ev_tru (ev_bin (ev_var rfl) (ev_k) (ev_eq (α := Int) pk_fz pk_fz)) (ev_truB)) (ev_tru (ev_bin (ev_var rfl) (ev_k) (ev_eq (α := Int) pk_fz pk_fz)) (ev_truB))) (fun _ => ?_) (fun _ => ?_)
  · exact ws_ret0 (ev_ap (ev_cons (ev_k) (ev_nil)) (ev_tup [em (("any" : Str) : Str)])) fun _ o => qf1 0 rfl o
  · refine ws_skip ?_
    refine ws_retK (kr := fun (g : Tu Str) => (g, pick.2)) (rep := fun (g : Tu Str) => fe g) (L' := fun (g : Tu Str) => [(0, .lst (List.map em (pick.2 : List Int)))]) ?_ fun _ _ o => qf1 0 rfl o
    exact w_ap (w_cons (we (ev_k) (w_cons (wv (w_bin (we (ev_ap (ev_cons (ev_k) (ev_cons (ev_k) (ev_cons (ev_k) (ev_cons (ev_k) (ev_nil))))) (ev_lst [em (("a" : Str) : Str), em (("b" : Str) : Str), em (("any" : Str) : Str), em (("c" : Str) : Str)])) (we (ev_bin (ev_var rfl) (ev_k) (ev_subI)) (w_idx pk_fz)))) fun g_ => (w_nil (w_ev (rep := fe) (ev_tup [em (("make" : Str) : Str), em (g_ : Str)])))))))
theorem lb_l_rule_1  (o1 : Option D) (n0 : Nat) : ∀ (s : (List Int) × (List (T3 (Tu Str) Str Int))) (j : Option D × Option D × Option D) (x : Int), Wk ([(0, .lst (List.map em (s.1 : List Int))), (n0, .lst (List.map em (s.2 : List (T3 (Tu Str) Str Int))))]) (n_l_rule_1 s x) (b_l_rule_1 ([some (.cell 0), o1, some (.cell n0), some (fe (x : Int)), j.2.1, j.2.2])) (QB (fun (s : (List Int) × (List (T3 (Tu Str) Str Int))) (j : Option D × Option D × Option D) => [some (.cell 0), o1, some (.cell n0), j.1, j.2.1, j.2.2]) (fun s j => [(0, .lst (List.map em (s.1 : List Int))), (n0, .lst (List.map em (s.2 : List (T3 (Tu Str) Str Int))))])) X0 := fun s j x => by
  unfold n_l_rule_1
  delta b_l_rule_1
  refine ws_last ?_
  refine ws_assoc ?_
  refine ws_set (rep := fun (g : (Tu Str) × List Int) => fe g.1) (L' := fun (g : (Tu Str) × List Int) => [(0, .lst (List.map em (g.2 : List Int))), (n0, .lst (List.map em (s.2 : List (T3 (Tu Str) Str Int))))]) ?_ fun seen => ?_
  · exact w_call (w_cons (we (ev_var rfl) (w_nil (w_call1 0 (sp_l_group s.1) rfl rfl rfl (fun _ => rfl)))))
  refine ws_assoc ?_
  refine ws_set (rep := fun (g : Str × List Int) => fe g.1) (L' := fun (g : Str × List Int) => [(0, .lst (List.map em (g.2 : List Int))), (n0, .lst (List.map em (s.2 : List (T3 (Tu Str) Str Int))))]) ?_ fun sign => ?_
  · exact w_bin (we (ev_ap (ev_cons (ev_k) (ev_cons (ev_k) (ev_nil))) (ev_lst [em (("<" : Str) : Str), em ((">=" : Str) : Str)])) (wv (w_call (w_cons (we (ev_var rfl) (w_cons (we (ev_k) (w_nil (w_call1 0 (sp_l_draw seen.2 (2 : Int)) rfl rfl rfl (fun _ => rfl)))))))) fun g_ => (w_withS (L' := fun (z9 : List Int) => [(0, .lst (List.map em (z9 : List Int))), (n0, .lst (List.map em (s.2 : List (T3 (Tu Str) Str Int))))]) (w_idx pk_fz) (fun _ o => o))))
  refine ws_append (rep := fun (g : (T3 (Tu Str) Str Int) × List Int) => fe g.1) (L' := fun (g : (T3 (Tu Str) Str Int) × List Int) => [(0, .lst (List.map em (g.2 : List Int))), (n0, .lst (List.map em (s.2 : List (T3 (Tu Str) Str Int))))]) (v := fun (g_4 : (T3 (Tu Str) Str Int) × List Int) => (g_4.1 : T3 (Tu Str) Str Int)) (ys := fun (g_4 : (T3 (Tu Str) Str Int) × List Int) => s.2) (kp := 1) ?_ rfl rfl (fun _ => fz_fz) (fun _ => rfl) fun g_4 bounds => ?_
  · exact w_ap (w_cons (we (ev_var rfl) (w_cons (we (ev_var rfl) (w_cons (wv (w_bin (we (ev_ap (ev_cons (ev_k) (ev_cons (ev_k) (ev_cons (ev_k) (ev_cons (ev_k) (ev_cons (ev_k) (ev_cons (ev_k) (ev_cons (ev_k) (ev_cons (ev_k) (ev_nil))))))))) (ev_lst [em ((1 : Int) : Int), em ((1 : Int) : Int), em ((2 : Int) : Int), em ((2 : Int) : Int), em ((3 : Int) : Int), em ((1 : Int) : Int), em ((2 : Int) : Int), em ((4 : Int) : Int)])) (wv (w_call (w_cons (we (ev_var rfl) (w_cons (we (ev_k) (w_nil (w_call1 0 (sp_l_draw sign.2 (8 : Int)) rfl rfl rfl (fun _ => rfl)))))))) fun g_2 => (w_withS (L' := fun (z9 : List Int) => [(0, .lst (List.map em (z9 : List Int))), (n0, .lst (List.map em (s.2 : List (T3 (Tu Str) Str Int))))]) (w_idx pk_fz) (fun _ o => o))))) fun g_3 => (w_nil (w_ok (rep := fun (g : (T3 (Tu Str) Str Int) × List Int) => fe g.1) (L' := fun (g : (T3 (Tu Str) Str Int) × List Int) => [(0, .lst (List.map em (g.2 : List Int))), (n0, .lst (List.map em (s.2 : List (T3 (Tu Str) Str Int))))]) (ev_tup [em (seen.1 : Tu Str), em (sign.1 : Str), em (g_3.1 : Int)]) (fun _ o => o)))))))))
  exact ws_end fun _ o => ⟨.inl rfl, (some (fe (x : Int)), some (fe (seen.1 : Tu Str)), some (fe (sign.1 : Str))), rfl, o⟩
theorem sp_l_rule (stream : List Int) : Sp1 (fun s : List Int => Ct.lst (List.map em s)) (n_l_rule stream) F_l_rule [] [] (.lst (List.map em stream)) := by
  refine sp1_of (fun _ => rfl) rfl [some (.cell 0), none, none, none, none, none] rfl ?_
  unfold n_l_rule
  delta b_l_rule
  refine ws_last ?_
  refine ws_assoc ?_
  refine ws_set (rep := fun (g : (Tu Str) × List Int) => fe g.1) (L' := fun (g : (Tu Str) × List Int) => [(0, .lst (List.map em (g.2 : List Int)))]) ?_ fun group => ?_
  · exact w_call (w_cons (we (ev_var rfl) (w_nil (w_call1 0 (sp_l_group stream) rfl rfl rfl (fun _ => rfl)))))
  refine ws_assoc ?_
  refine ws_setN (w_newL (ev_nil)) fun bounds n_ => ?_
  refine ws_assoc ?_
  refine ws_cut (J := Option D × Option D × Option D) (E := fun (s9 : (List Int) × (List (T3 (Tu Str) Str Int))) (j9 : Option D × Option D × Option D) => [some (.cell 0), some (fe (group.1 : Tu Str)), some (.cell n_), j9.1, j9.2.1, j9.2.2]) (Lf := fun s9 j9 => [(0, .lst (List.map em (s9.1 : List Int))), (n_, .lst (List.map em (s9.2 : List (T3 (Tu Str) Str Int))))]) ?_ fun q_q j_ => ?_
  · refine w_forR1 (j := fun (g_2 : Int × List Int) => g_2.1) (L1 := fun (g : Int × List Int) => [(0, .lst (List.map em (g.2 : List Int))), (n_, .lst (List.map em (bounds : List (T3 (Tu Str) Str Int))))]) (w_one (w_bin (we (ev_ap (ev_cons (ev_k) (ev_cons (ev_k) (ev_cons (ev_k) (ev_cons (ev_k) (ev_cons (ev_k) (ev_cons (ev_k) (ev_cons (ev_k) (ev_cons (ev_k) (ev_nil))))))))) (ev_lst [em ((0 : Int) : Int), em ((0 : Int) : Int), em ((1 : Int) : Int), em ((1 : Int) : Int), em ((1 : Int) : Int), em ((2 : Int) : Int), em ((2 : Int) : Int), em ((3 : Int) : Int)])) (wv (w_call (w_cons (we (ev_var rfl) (w_cons (we (ev_k) (w_nil (w_call1 0 (sp_l_draw group.2 (8 : Int)) rfl rfl rfl (fun _ => rfl)))))))) fun g_ => (w_withS (L' := fun (z9 : List Int) => [(0, .lst (List.map em (z9 : List Int))), (n_, .lst (List.map em (bounds : List (T3 (Tu Str) Str Int))))]) (w_idx pk_fz) (fun _ o => o)))))) (fun g_2 xs => ?_)
    exact loop_fold (E := fun (s9 : (List Int) × (List (T3 (Tu Str) Str Int))) (j9 : Option D × Option D × Option D) => [some (.cell 0), some (fe (group.1 : Tu Str)), some (.cell n_), j9.1, j9.2.1, j9.2.2]) (Lf := fun s9 j9 => [(0, .lst (List.map em (s9.1 : List Int))), (n_, .lst (List.map em (s9.2 : List (T3 (Tu Str) Str Int))))]) (h := em) (fun _ _ _ _ => rfl) (lb_l_rule_1 (some (fe (group.1 : Tu Str))) n_) _ (g_2.2, bounds) (none, none, none)
  exact ws_ret0 (ev_ap (ev_cons (ev_var rfl) (ev_cons (ev_ap (ev_cons (ev_var rfl) (ev_nil)) (ev_tupleL (pk_lst 1))) (ev_nil))) (ev_tup [em (group.1 : Tu Str), em ((Tu.mk q_q.2) : Tu (T3 (Tu Str) Str Int))])) fun _ o => qf1 0 rfl o
theorem lb_l_rules_1  (n0 : Nat) : ∀ (s : (List Int) × (List (T2 (Tu Str) (Tu (T3 (Tu Str) Str Int))))) (j : Option D) (x : Int), Wk ([(0, .lst (List.map em (s.1 : List Int))), (n0, .lst (List.map em (s.2 : List (T2 (Tu Str) (Tu (T3 (Tu Str) Str Int))))))]) (n_l_rules_1 s x) (b_l_rules_1 ([some (.cell 0), some (.cell n0), some (fe (x : Int))])) (QB (fun (s : (List Int) × (List (T2 (Tu Str) (Tu (T3 (Tu Str) Str Int))))) (j : Option D) => [some (.cell 0), some (.cell n0), j]) (fun s j => [(0, .lst (List.map em (s.1 : List Int))), (n0, .lst (List.map em (s.2 : List (T2 (Tu Str) (Tu (T3 (Tu Str) Str Int))))))])) X0 := fun s j x => by
  unfold n_l_rules_1
  delta b_l_rules_1
  refine ws_last ?_
  refine ws_append (rep := fun (g : (T2 (Tu Str) (Tu (T3 (Tu Str) Str Int))) × List Int) => fe g.1) (L' := fun (g : (T2 (Tu Str) (Tu (T3 (Tu Str) Str Int))) × List Int) => [(0, .lst (List.map em (g.2 : List Int))), (n0, .lst (List.map em (s.2 : List (T2 (Tu Str) (Tu (T3 (Tu Str) Str Int))))))]) (v := fun (g_ : (T2 (Tu Str) (Tu (T3 (Tu Str) Str Int))) × List Int) => (g_.1 : T2 (Tu Str) (Tu (T3 (Tu Str) Str Int)))) (ys := fun (g_ : (T2 (Tu Str) (Tu (T3 (Tu Str) Str Int))) × List Int) => s.2) (kp := 1) ?_ rfl rfl (fun _ => fz_fz) (fun _ => rfl) fun g_ rules => ?_
  · exact w_call (w_cons (we (ev_var rfl) (w_nil (w_call1 0 (sp_l_rule s.1) rfl rfl rfl (fun _ => rfl)))))
  exact ws_end fun _ o => ⟨.inl rfl, (some (fe (x : Int))), rfl, o⟩
theorem sp_l_rules (stream : List Int) : Sp1 (fun s : List Int => Ct.lst (List.map em s)) (n_l_rules stream) F_l_rules [] [] (.lst (List.map em stream)) := by
  refine sp1_of (fun _ => rfl) rfl [some (.cell 0), none, none] rfl ?_
  unfold n_l_rules
  delta b_l_rules
  refine ws_last ?_
  refine ws_assoc ?_
  refine ws_setN (w_newL (ev_nil)) fun rules n_ => ?_
  refine ws_assoc ?_
  refine ws_cut (J := Option D) (E := fun (s9 : (List Int) × (List (T2 (Tu Str) (Tu (T3 (Tu Str) Str Int))))) (j9 : Option D) => [some (.cell 0), some (.cell n_), j9]) (Lf := fun s9 j9 => [(0, .lst (List.map em (s9.1 : List Int))), (n_, .lst (List.map em (s9.2 : List (T2 (Tu Str) (Tu (T3 (Tu Str) Str Int))))))]) ?_ fun q_q j_ => ?_
  · refine w_forR1 (j := fun (g_2 : Int × List Int) => g_2.1) (L1 := fun (g : Int × List Int) => [(0, .lst (List.map em (g.2 : List Int))), (n_, .lst (List.map em (rules : List (T2 (Tu Str) (Tu (T3 (Tu Str) Str Int))))))]) (w_one (w_bin (we (ev_ap (ev_cons (ev_k) (ev_cons (ev_k) (ev_cons (ev_k) (ev_cons (ev_k) (ev_cons (ev_k) (ev_cons (ev_k) (ev_cons (ev_k) (ev_cons (ev_k) (ev_cons (ev_k) (ev_cons (ev_k) (ev_nil))))))))))) (ev_lst [em ((0 : Int) : Int), em ((1 : Int) : Int), em ((1 : Int) : Int), em ((2 : Int) : Int), em ((2 : Int) : Int), em ((2 : Int) : Int), em ((3 : Int) : Int), em ((3 : Int) : Int), em ((4 : Int) : Int), em ((1 : Int) : Int)])) (wv (w_call (w_cons (we (ev_var rfl) (w_cons (we (ev_k) (w_nil (w_call1 0 (sp_l_draw stream (10 : Int)) rfl rfl rfl (fun _ => rfl)))))))) fun g_ => (w_withS (L' := fun (z9 : List Int) => [(0, .lst (List.map em (z9 : List Int))), (n_, .lst (List.map em (rules : List (T2 (Tu Str) (Tu (T3 (Tu Str) Str Int))))))]) (w_idx pk_fz) (fun _ o => o)))))) (fun g_2 xs => ?_)
    exact loop_fold (E := fun (s9 : (List Int) × (List (T2 (Tu Str) (Tu (T3 (Tu Str) Str Int))))) (j9 : Option D) => [some (.cell 0), some (.cell n_), j9]) (Lf := fun s9 j9 => [(0, .lst (List.map em (s9.1 : List Int))), (n_, .lst (List.map em (s9.2 : List (T2 (Tu Str) (Tu (T3 (Tu Str) Str Int))))))]) (h := em) (fun _ _ _ _ => rfl) (lb_l_rules_1 n_) _ (g_2.2, rules) none
  exact ws_ret0 (ev_var rfl) fun _ o => qf1c 0 1 rfl o
theorem w_new_crew {L : Ow} {X : XP} {η : Et} {ws : List (T2 Str Str)} : Wk L (n_new_crew ws) (fun st => (callF F_Crew_init (.cell st.length :: [fe ws]) η (st ++ [.obj "Crew" []])).bind fun b => frzE st.length b) (PV fe fun _ => L) X := by
  unfold n_new_crew
  by_cases h : crewOk ws = true
  · rw [if_pos h]; exact w_newLs (as := [.lst (ws.map em)]) rfl rfl (init_ok h)
  · rw [if_neg h]; exact w_stuck
theorem lb_l_workers_1 (makes : List Str) (turn : Int) (names : List Str) (n0 : Nat) : ∀ (s : (List (T2 Str Str))) (j : Option D) (x : Int), Wk ([(n0, .lst (List.map em (s : List (T2 Str Str))))]) (n_l_workers_1 makes turn names s x) (b_l_workers_1 ([some (fe (makes : List Str)), some (fe (turn : Int)), some (fe (names : List Str)), some (.cell n0), some (fe (x : Int))])) (QB (fun (s : (List (T2 Str Str))) (j : Option D) => [some (fe (makes : List Str)), some (fe (turn : Int)), some (fe (names : List Str)), some (.cell n0), j]) (fun s j => [(n0, .lst (List.map em (s : List (T2 Str Str))))])) XT := fun s j x => by
  unfold n_l_workers_1
  delta b_l_workers_1
  refine ws_last ?_
  refine ws_append (rep := fe (α := T2 Str Str)) (L' := fun (_ : T2 Str Str) => [(n0, .lst (List.map em (s : List (T2 Str Str))))]) (v := fun (g_7 : T2 Str Str) => (g_7 : T2 Str Str)) (ys := fun (g_7 : T2 Str Str) => s) (kp := 0) ?_ rfl rfl (fun _ => fz_fz) (fun _ => rfl) fun g_7 workers => ?_
  · exact w_ap (w_cons (wv (w_bin (we (ev_var rfl) (wv (w_bin (wv (w_ap (w_cons (wv (w_bin (wv (w_bin (we (ev_var rfl) (we (ev_k) (w_mul)))) fun g_ => (we (ev_var rfl) (w_ev (rep := fe) (ev_addI))))) fun g_2 => (w_nil (w_ev (rep := fe) (ev_int1)))))) fun g_3 => (we (ev_k) (w_mod)))) fun g_4 => (w_idx pk_fz)))) fun g_5 => (w_cons (wv (w_bin (we (ev_var rfl) (we (ev_var rfl) (w_idx pk_fz)))) fun g_6 => (w_nil (w_ev (rep := fe) (ev_tup [em (g_5 : Str), em (g_6 : Str)])))))))
  exact ws_end fun _ o => ⟨.inl rfl, (some (fe (x : Int))), rfl, o⟩
theorem sp_l_workers (makes : List Str) (turn : Int) : Sp0 (n_l_workers makes turn) F_l_workers [em (makes : List Str), em (turn : Int)] := by
  refine sp0_of rfl [some (fe (makes : List Str)), some (fe (turn : Int)), none, none, none] rfl ?_
  unfold n_l_workers
  delta b_l_workers
  refine ws_last ?_
  refine ws_assoc ?_
  refine ws_set (w_ev (rep := fe (α := List Str)) (ev_ap (ev_cons (ev_k) (ev_cons (ev_k) (ev_cons (ev_k) (ev_cons (ev_k) (ev_cons (ev_k) (ev_cons (ev_k) (ev_nil))))))) (ev_lst [em (("m" : Str) : Str), em (("kb" : Str) : Str), em (("a" : Str) : Str), em (("zzz" : Str) : Str), em (("if" : Str) : Str), em (("any" : Str) : Str)]))) fun names => ?_
  refine ws_assoc ?_
  refine ws_setN (w_newL (ev_nil)) fun workers n_ => ?_
  refine ws_assoc ?_
  refine ws_cut (J := Option D) (E := fun (s9 : (List (T2 Str Str))) (j9 : Option D) => [some (fe (makes : List Str)), some (fe (turn : Int)), some (fe (names : List Str)), some (.cell n_), j9]) (Lf := fun s9 j9 => [(n_, .lst (List.map em (s9 : List (T2 Str Str))))]) ?_ fun q_ j_ => ?_
  · refine w_forR1P (j := (lenI makes)) (ev_ap (ev_cons (ev_var rfl) (ev_nil)) (ev_len pk_fz)) (fun xs => ?_)
    exact loop_fold (E := fun (s9 : (List (T2 Str Str))) (j9 : Option D) => [some (fe (makes : List Str)), some (fe (turn : Int)), some (fe (names : List Str)), some (.cell n_), j9]) (Lf := fun s9 j9 => [(n_, .lst (List.map em (s9 : List (T2 Str Str))))]) (h := em) (fun _ _ _ _ => rfl) (lb_l_workers_1 makes turn names n_) _ workers none
  exact ws_ret0 (ev_var rfl) fun _ o => qf0 (fz_c 0) o
theorem w_new_scheme {L : Ow} {X : XP} {η : Et} {rs : List (T2 (Tu Str) (Tu (T3 (Tu Str) Str Int)))} : Wk L (n_new_scheme rs) (fun st => (callF F_Scheme_init (.cell st.length :: [fe rs]) η (st ++ [.obj "Scheme" []])).bind fun b => frzE st.length b) (PV fe fun _ => L) X := by
  unfold n_new_scheme
  by_cases h : schemeOk rs = true
  · rw [if_pos h]; exact w_newO (as := [.lst (rs.map em)]) (fs := [("rules", .lst (rs.map em))]) rfl rfl (sinit_ok h)
  · rw [if_neg h]; exact w_stuck
theorem lb_l_ranking_1  (o1 : Option D) (n0 : Nat) (n1 : Nat) : ∀ (s : (List Int) × (List Int) × (List Int)) (j : Option D) (x : Int), Wk ([(0, .lst (List.map em (s.1 : List Int))), (n0, .lst (List.map em (s.2.1 : List Int))), (n1, .lst (List.map em (s.2.2 : List Int)))]) (n_l_ranking_1 s x) (b_l_ranking_1 ([some (.cell 0), o1, some (.cell n0), some (.cell n1), some (fe (x : Int))])) (QB (fun (s : (List Int) × (List Int) × (List Int)) (j : Option D) => [some (.cell 0), o1, some (.cell n0), some (.cell n1), j]) (fun s j => [(0, .lst (List.map em (s.1 : List Int))), (n0, .lst (List.map em (s.2.1 : List Int))), (n1, .lst (List.map em (s.2.2 : List Int)))])) X0 := fun s j x => by
  unfold n_l_ranking_1
  delta b_l_ranking_1
  refine ws_last ?_
  refine ws_append (rep := fun (g : Int × (List Int × List Int)) => fe g.1) (L' := fun (g : Int × (List Int × List Int)) => [(0, .lst (List.map em (g.2.2 : List Int))), (n0, .lst (List.map em (g.2.1 : List Int))), (n1, .lst (List.map em (s.2.2 : List Int)))]) (v := fun (g_ : Int × (List Int × List Int)) => (g_.1 : Int)) (ys := fun (g_ : Int × (List Int × List Int)) => s.2.2) (kp := 2) ?_ rfl rfl (fun _ => fz_fz) (fun _ => rfl) fun g_ ranking => ?_
  · exact w_popX (kp := 1) (L1 := fun (g : Int × List Int) => [(0, .lst (List.map em (g.2 : List Int))), (n0, .lst (List.map em (s.2.1 : List Int))), (n1, .lst (List.map em (s.2.2 : List Int)))]) (ix := fun (g : Int × List Int) => g.1) (ys := fun (g : Int × List Int) => s.2.1) (mk := fun (g : Int × List Int) (r : Int × List Int) => (r.1, (r.2, g.2))) (rep := fun (q : Int × (List Int × List Int)) => fe q.1) (L2 := fun (q : Int × (List Int × List Int)) => [(0, .lst (List.map em (q.2.2 : List Int))), (n0, .lst (List.map em (q.2.1 : List Int))), (n1, .lst (List.map em (s.2.2 : List Int)))]) (w_call (w_cons (we (ev_var rfl) (w_cons (we (ev_ap (ev_cons (ev_var rfl) (ev_nil)) (ev_len (pk_lst 1))) (w_nil (w_call1 0 (sp_l_draw s.1 (lenI s.2.1)) rfl rfl rfl (fun _ => rfl)))))))) rfl rfl (fun _ => rfl) (fun _ _ => rfl) (fun _ _ => rfl)
  exact ws_end fun _ o => ⟨.inl rfl, (some (fe (x : Int))), rfl, o⟩
theorem sp_l_ranking (stream : List Int) (size : Int) : Sp1 (fun s : List Int => Ct.lst (List.map em s)) (n_l_ranking stream size) F_l_ranking [] [em (size : Int)] (.lst (List.map em stream)) := by
  refine sp1_of (fun _ => rfl) rfl [some (.cell 0), some (fe (size : Int)), none, none, none] rfl ?_
  unfold n_l_ranking
  delta b_l_ranking
  refine ws_last ?_
  refine ws_assoc ?_
  refine ws_setN (w_un (we (ev_var rfl) (w_lrgN))) fun left n_ => ?_
  refine ws_assoc ?_
  refine ws_setN (w_newL (ev_nil)) fun ranking n_2 => ?_
  refine ws_assoc ?_
  refine ws_cut (J := Option D) (E := fun (s9 : (List Int) × (List Int) × (List Int)) (j9 : Option D) => [some (.cell 0), some (fe (size : Int)), some (.cell n_), some (.cell n_2), j9]) (Lf := fun s9 j9 => [(0, .lst (List.map em (s9.1 : List Int))), (n_, .lst (List.map em (s9.2.1 : List Int))), (n_2, .lst (List.map em (s9.2.2 : List Int)))]) ?_ fun q_q_q j_ => ?_
  · refine w_forR1P (j := size) (ev_var rfl) (fun xs => ?_)
    exact loop_fold (E := fun (s9 : (List Int) × (List Int) × (List Int)) (j9 : Option D) => [some (.cell 0), some (fe (size : Int)), some (.cell n_), some (.cell n_2), j9]) (Lf := fun s9 j9 => [(0, .lst (List.map em (s9.1 : List Int))), (n_, .lst (List.map em (s9.2.1 : List Int))), (n_2, .lst (List.map em (s9.2.2 : List Int)))]) (h := em) (fun _ _ _ _ => rfl) (lb_l_ranking_1 (some (fe (size : Int))) n_ n_2) _ (stream, left, ranking) none
  exact ws_ret0 (ev_var rfl) fun _ o => qf1c 0 2 rfl o
theorem sp_l_spot (size : Int) (mask : Int) : Sp0 (n_l_spot size mask) F_l_spot [em (size : Int), em (mask : Int)] := by
  refine sp0_of rfl [some (fe (size : Int)), some (fe (mask : Int)), none, none] rfl ?_
  unfold n_l_spot
  delta b_l_spot
  refine ws_last ?_
  refine ws_assoc ?_
  refine ws_set (w_ev (rep := fe (α := List Int)) (ev_ap (ev_cons (ev_k) (ev_cons (ev_k) (ev_cons (ev_k) (ev_cons (ev_k) (ev_cons (ev_k) (ev_cons (ev_k) (ev_nil))))))) (ev_lst [em ((1 : Int) : Int), em ((2 : Int) : Int), em ((4 : Int) : Int), em ((8 : Int) : Int), em ((16 : Int) : Int), em ((32 : Int) : Int)]))) fun powers => ?_
  refine ws_ret (rep := fe (α := Tu Int)) (L' := fun (_ : Tu Int) => []) ?_ fun _ _ o => qf0 fz_fz o
  exact w_ap (w_cons (wv (w_lcR1 (j := fun g => g) (w_ev (rep := fun g => [fe g]) (ev_cons (ev_var rfl) ev_nil)) (fun _ xs => lcZ_walk (fun (at_ : Int) => w_tru (wv (w_bin (wv (w_bin (wv (w_ap (w_cons (wv (w_bin (we (ev_var rfl) (wv (w_bin (we (ev_var rfl) (we (ev_var rfl) (w_idx pk_fz)))) fun g_ => (w_fdiv)))) fun g_2 => (w_nil (w_ev (rep := fe) (ev_int1)))))) fun g_3 => (we (ev_k) (w_mod)))) fun g_4 => (we (ev_k) (w_ev (rep := fe) (ev_eq (α := Int) pk_fz pk_fz))))) fun g_5 => w_ev (rep := id) (ev_truB))) (fun (at_ : Int) => w_ev (rep := fe) (ev_var rfl)) xs)) fun g_6 => (w_nil (w_ev (rep := fe) (ev_tupleL pk_fz)))))
theorem lb_l_spots_1 (size : Int) (full : Int) (powers : List Int) (o2 : Option D) (n0 : Nat) : ∀ (s : Int × (List Int) × (List (Tu Int))) (j : Option D × Option D × Option D × Option D) (x : Int), Wk ([(0, .lst (List.map em (s.2.1 : List Int))), (n0, .lst (List.map em (s.2.2 : List (Tu Int))))]) (n_l_spots_1 size full powers s x) (b_l_spots_1 ([some (.cell 0), some (fe (size : Int)), o2, some (fe (full : Int)), some (fe (powers : List Int)), some (fe (s.1 : Int)), some (.cell n0), some (fe (x : Int)), j.2.1, j.2.2.1, j.2.2.2])) (QB (fun (s : Int × (List Int) × (List (Tu Int))) (j : Option D × Option D × Option D × Option D) => [some (.cell 0), some (fe (size : Int)), o2, some (fe (full : Int)), some (fe (powers : List Int)), some (fe (s.1 : Int)), some (.cell n0), j.1, j.2.1, j.2.2.1, j.2.2.2]) (fun s j => [(0, .lst (List.map em (s.2.1 : List Int))), (n0, .lst (List.map em (s.2.2 : List (Tu Int))))])) X0 := fun s j x => by
  unfold n_l_spots_1
  delta b_l_spots_1
  refine ws_last ?_
  refine ws_assoc ?_
  refine ws_set (rep := fun (g : Int × List Int) => fe g.1) (L' := fun (g : Int × List Int) => [(0, .lst (List.map em (g.2 : List Int))), (n0, .lst (List.map em (s.2.2 : List (Tu Int))))]) ?_ fun pick => ?_
  · exact w_call (w_cons (we (ev_var rfl) (w_cons (we (ev_k) (w_nil (w_call1 0 (sp_l_draw s.2.1 (4 : Int)) rfl rfl rfl (fun _ => rfl)))))))
  refine ws_assoc ?_
  refine ws_set (w_ev (rep := fe (α := Int)) (ev_var rfl)) fun later => ?_
  refine ws_assoc ?_
  refine ws_cut (J := Option D) (E := fun (s9 : Int × (List Int)) (j9 : Option D) => [some (.cell 0), some (fe (size : Int)), o2, some (fe (full : Int)), some (fe (powers : List Int)), some (fe (s.1 : Int)), some (.cell n0), some (fe (x : Int)), some (fe (pick.1 : Int)), some (fe (s9.1 : Int)), j9]) (Lf := fun s9 j9 => [(0, .lst (List.map em (s9.2 : List Int))), (n0, .lst (List.map em (s.2.2 : List (Tu Int))))]) ?_ fun later_q j_ => ?_
  · refine ws_last ?_
    refine ws_ifP (ev_tru (ev_bin (ev_var rfl) (ev_k) (ev_eq (α := Int) pk_fz pk_fz)) (ev_truB)) (fun _ => ?_) (fun _ => ?_)
    · refine ws_set (rep := fun (g : Int × List Int) => fe g.1) (L' := fun (g : Int × List Int) => [(0, .lst (List.map em (g.2 : List Int))), (n0, .lst (List.map em (s.2.2 : List (Tu Int))))]) ?_ fun later2 => ?_
      · exact w_bin (we (ev_k) (wv (w_call (w_cons (we (ev_var rfl) (w_cons (we (ev_var rfl) (w_nil (w_call1 0 (sp_l_draw pick.2 full) rfl rfl rfl (fun _ => rfl)))))))) fun g_ => (w_ok (rep := fun (g : Int × List Int) => fe g.1) (L' := fun (g : Int × List Int) => [(0, .lst (List.map em (g.2 : List Int))), (n0, .lst (List.map em (s.2.2 : List (Tu Int))))]) (ev_addI) (fun _ o => o))))
      exact ws_end fun _ o => ⟨rfl, j.2.2.2, rfl, o⟩
    · refine ws_ifP (ev_tru (ev_bin (ev_var rfl) (ev_k) (ev_gt)) (ev_truB)) (fun _ => ?_) (fun _ => ?_)
      · refine ws_assoc ?_
        refine ws_set (rep := fun (g : Int × List Int) => fe g.1) (L' := fun (g : Int × List Int) => [(0, .lst (List.map em (g.2 : List Int))), (n0, .lst (List.map em (s.2.2 : List (Tu Int))))]) ?_ fun bit => ?_
        · exact w_bin (we (ev_var rfl) (wv (w_call (w_cons (we (ev_var rfl) (w_cons (we (ev_var rfl) (w_nil (w_call1 0 (sp_l_draw pick.2 size) rfl rfl rfl (fun _ => rfl)))))))) fun g_2 => (w_withS (L' := fun (z9 : List Int) => [(0, .lst (List.map em (z9 : List Int))), (n0, .lst (List.map em (s.2.2 : List (Tu Int))))]) (w_idx pk_fz) (fun _ o => o))))
        refine ws_assoc ?_
        refine ws_set (w_ev (rep := fe (α := Int)) (ev_bin (ev_var rfl) (ev_var rfl) (ev_addI))) fun later3 => ?_
        refine ws_ifG (bv := fun (g : Bool) => g) (L' := fun (g : Bool) => [(0, .lst (List.map em (bit.2 : List Int))), (n0, .lst (List.map em (s.2.2 : List (Tu Int))))]) ?_ (fun b_ => ?_) (fun b_ => ?_)
        · exact w_tru (wv (w_bin (wv (w_bin (wv (w_ap (w_cons (wv (w_bin (we (ev_var rfl) (we (ev_var rfl) (w_fdiv)))) fun g_3 => (w_nil (w_ev (rep := fe) (ev_int1)))))) fun g_4 => (we (ev_k) (w_mod)))) fun g_5 => (we (ev_k) (w_ev (rep := fe) (ev_eq (α := Int) pk_fz pk_fz))))) fun g_6 => w_ev (rep := id) (ev_truB))
        · refine ws_set (w_ev (rep := fe (α := Int)) (ev_bin (ev_var rfl) (ev_var rfl) (ev_subI))) fun later4 => ?_
          exact ws_end fun _ o => ⟨rfl, (some (fe (bit.1 : Int))), rfl, o⟩
        · refine ws_skip ?_
          exact ws_end fun _ o => ⟨rfl, (some (fe (bit.1 : Int))), rfl, o⟩
      · refine ws_skip ?_
        exact ws_end fun _ o => ⟨rfl, j.2.2.2, rfl, o⟩
  refine ws_assoc ?_
  refine ws_cut (J := Unit) (E := fun (s92 : Int) (j92 : Unit) => [some (.cell 0), some (fe (size : Int)), o2, some (fe (full : Int)), some (fe (powers : List Int)), some (fe (s92 : Int)), some (.cell n0), some (fe (x : Int)), some (fe (pick.1 : Int)), some (fe (later_q.1 : Int)), j_]) (Lf := fun s92 j92 => [(0, .lst (List.map em (later_q.2 : List Int))), (n0, .lst (List.map em (s.2.2 : List (Tu Int))))]) ?_ fun mask j_2 => ?_
  · refine ws_last ?_
    refine ws_ifP (ev_tru (ev_bin (ev_var rfl) (ev_k) (ev_gt)) (ev_truB)) (fun _ => ?_) (fun _ => ?_)
    · refine ws_set (w_ev (rep := fe (α := Int)) (ev_var rfl)) fun mask2 => ?_
      exact ws_end fun _ o => ⟨rfl, (), rfl, o⟩
    · refine ws_skip ?_
      exact ws_end fun _ o => ⟨rfl, (), rfl, o⟩
  refine ws_append (rep := fe (α := Tu Int)) (L' := fun (_ : Tu Int) => [(0, .lst (List.map em (later_q.2 : List Int))), (n0, .lst (List.map em (s.2.2 : List (Tu Int))))]) (v := fun (g_7 : Tu Int) => (g_7 : Tu Int)) (ys := fun (g_7 : Tu Int) => s.2.2) (kp := 1) ?_ rfl rfl (fun _ => fz_fz) (fun _ => rfl) fun g_7 spots => ?_
  · exact w_call (w_cons (we (ev_var rfl) (w_cons (we (ev_var rfl) (w_nil (w_calm (w_call0 (sp_l_spot size mask) rfl (fun _ _ => trivial))))))))
  exact ws_end fun _ o => ⟨.inl rfl, (some (fe (x : Int)), some (fe (pick.1 : Int)), some (fe (later_q.1 : Int)), j_), rfl, o⟩
theorem sp_l_spots (stream : List Int) (size : Int) (many : Int) : Sp1 (fun s : List Int => Ct.lst (List.map em s)) (n_l_spots stream size many) F_l_spots [] [em (size : Int), em (many : Int)] (.lst (List.map em stream)) := by
  refine sp1_of (fun _ => rfl) rfl [some (.cell 0), some (fe (size : Int)), some (fe (many : Int)), none, none, none, none, none, none, none, none] rfl ?_
  unfold n_l_spots
  delta b_l_spots
  refine ws_last ?_
  refine ws_assoc ?_
  refine ws_set (rep := fe (α := Int)) (L' := fun (_ : Int) => [(0, .lst (List.map em (stream : List Int)))]) ?_ fun full => ?_
  · exact w_bin (we (ev_ap (ev_cons (ev_k) (ev_cons (ev_k) (ev_cons (ev_k) (ev_cons (ev_k) (ev_cons (ev_k) (ev_cons (ev_k) (ev_nil))))))) (ev_lst [em ((1 : Int) : Int), em ((3 : Int) : Int), em ((7 : Int) : Int), em ((15 : Int) : Int), em ((31 : Int) : Int), em ((63 : Int) : Int)])) (we (ev_bin (ev_var rfl) (ev_k) (ev_subI)) (w_idx pk_fz)))
  refine ws_assoc ?_
  refine ws_set (w_ev (rep := fe (α := List Int)) (ev_ap (ev_cons (ev_k) (ev_cons (ev_k) (ev_cons (ev_k) (ev_cons (ev_k) (ev_cons (ev_k) (ev_cons (ev_k) (ev_nil))))))) (ev_lst [em ((1 : Int) : Int), em ((2 : Int) : Int), em ((4 : Int) : Int), em ((8 : Int) : Int), em ((16 : Int) : Int), em ((32 : Int) : Int)]))) fun powers => ?_
  refine ws_assoc ?_
  refine ws_set (rep := fun (g : Int × List Int) => fe g.1) (L' := fun (g : Int × List Int) => [(0, .lst (List.map em (g.2 : List Int)))]) ?_ fun mask => ?_
  · exact w_bin (we (ev_k) (wv (w_call (w_cons (we (ev_var rfl) (w_cons (we (ev_var rfl) (w_nil (w_call1 0 (sp_l_draw stream full) rfl rfl rfl (fun _ => rfl)))))))) fun g_ => (w_ok (rep := fun (g : Int × List Int) => fe g.1) (L' := fun (g : Int × List Int) => [(0, .lst (List.map em (g.2 : List Int)))]) (ev_addI) (fun _ o => o))))
  refine ws_assoc ?_
  refine ws_setN (w_ap (w_cons (wv (w_call (w_cons (we (ev_var rfl) (w_cons (we (ev_var rfl) (w_nil (w_calm (w_call0 (sp_l_spot size mask.1) rfl (fun _ _ => trivial))))))))) fun g_2 => (w_nil (w_lstN (ct := fun (xs : List (Tu Int)) => Ct.lst (List.map em xs)) (L' := fun _ => [(0, .lst (List.map em (mask.2 : List Int)))]) (xs := ([g_2] : List (Tu Int))) rfl rfl rfl))))) fun spots n_ => ?_
  refine ws_assoc ?_
  refine ws_cut (J := Option D × Option D × Option D × Option D) (E := fun (s9 : Int × (List Int) × (List (Tu Int))) (j9 : Option D × Option D × Option D × Option D) => [some (.cell 0), some (fe (size : Int)), some (fe (many : Int)), some (fe (full : Int)), some (fe (powers : List Int)), some (fe (s9.1 : Int)), some (.cell n_), j9.1, j9.2.1, j9.2.2.1, j9.2.2.2]) (Lf := fun s9 j9 => [(0, .lst (List.map em (s9.2.1 : List Int))), (n_, .lst (List.map em (s9.2.2 : List (Tu Int))))]) ?_ fun mask_q_q j_ => ?_
  · refine w_forR1P (j := (many - (1 : Int))) (ev_bin (ev_var rfl) (ev_k) (ev_subI)) (fun xs => ?_)
    exact loop_fold (E := fun (s9 : Int × (List Int) × (List (Tu Int))) (j9 : Option D × Option D × Option D × Option D) => [some (.cell 0), some (fe (size : Int)), some (fe (many : Int)), some (fe (full : Int)), some (fe (powers : List Int)), some (fe (s9.1 : Int)), some (.cell n_), j9.1, j9.2.1, j9.2.2.1, j9.2.2.2]) (Lf := fun s9 j9 => [(0, .lst (List.map em (s9.2.1 : List Int))), (n_, .lst (List.map em (s9.2.2 : List (Tu Int))))]) (h := em) (fun _ _ _ _ => rfl) (lb_l_spots_1 size full powers (some (fe (many : Int))) n_) _ (mask.1, mask.2, spots) (none, none, none, none)
  exact ws_ret0 (ev_var rfl) fun _ o => qf1c 0 1 rfl o
theorem sp_l_in_group (group : Tu Str) (make : Str) : Sp0 (n_l_in_group group make) F_l_in_group [em (group : Tu Str), em (make : Str)] := by
  refine sp0_of rfl [some (fe (group : Tu Str)), some (fe (make : Str))] rfl ?_
  unfold n_l_in_group
  delta b_l_in_group
  refine ws_last ?_
  refine ws_ret (rep := fe (α := Bool)) (L' := fun (_ : Bool) => []) ?_ fun _ _ o => qf0 fz_fz o
  exact w_orV (w_bin (we (ev_var rfl) (we (ev_ap (ev_cons (ev_k) (ev_nil)) (ev_tup [em (("any" : Str) : Str)])) (w_eqM pk_fz pk_fz)))) (fun _ o => ⟨rfl, o⟩) (w_bin (wv (w_bin (we (ev_var rfl) (we (ev_k) (w_idxT pk_fz)))) fun g_ => (we (ev_var rfl) (w_eqM pk_fz pk_fz))))
theorem lb_l_takes_2 (q0 : List Str) (o0 : Option D) (o1 : Option D) (o3 : Option D) (o4 : Option D) : ∀ (s : Bool) (j : Option D × Option D × Option D) (x : T3 (Tu Str) Str Int), Wk ([(0, .lst (List.map em (q0 : List Str)))]) (n_l_takes_2 q0 s x) (b_l_takes_2 ([o0, o1, some (.cell 0), o3, o4, some (fe (s : Bool)), some (fe (x : T3 (Tu Str) Str Int)), j.2.1, j.2.2, none])) (QB (fun (s : Bool) (j : Option D × Option D × Option D) => [o0, o1, some (.cell 0), o3, o4, some (fe (s : Bool)), j.1, j.2.1, j.2.2, none]) (fun s j => [(0, .lst (List.map em (q0 : List Str)))])) X0 := fun s j x => by
  unfold n_l_takes_2
  delta b_l_takes_2
  refine ws_last ?_
  refine ws_assoc ?_
  refine ws_set (rep := fe (α := Int)) (L' := fun (_ : Int) => [(0, .lst (List.map em (q0 : List Str)))]) ?_ fun many => ?_
  · exact w_ap (w_cons (wv (w_lcC (kp := 0) (xs := q0) (ev_var rfl) rfl (fun (other : Str) => w_tru (wv (w_call (w_cons (we (ev_bin (ev_var rfl) (ev_k) (ev_tix (q := em (x.a : Tu Str)))) (w_cons (we (ev_var rfl) (w_nil (w_call0 (sp_l_in_group x.a other) rfl (fun _ _ => trivial)))))))) fun g_ => w_ev (rep := id) (ev_truB))) (fun (other : Str) => w_ev (rep := fe) (ev_var rfl))) fun g_2 => (w_nil (w_ev (rep := fe) (ev_len pk_fz)))))
  refine ws_assoc ?_
  refine ws_set (rep := fe (α := Bool)) (L' := fun (_ : Bool) => [(0, .lst (List.map em (q0 : List Str)))]) ?_ fun below => ?_
  · exact w_bin (we (ev_bin (ev_var rfl) (ev_k) (ev_tix (q := em (x.b : Str)))) (we (ev_k) (w_eqM pk_fz pk_fz)))
  refine ws_ifP (ev_tru (ev_bin (ev_var rfl) (ev_bin (ev_var rfl) (ev_bin (ev_var rfl) (ev_k) (ev_tix (q := em (x.c : Int)))) (ev_lt)) (ev_ne (α := Bool) pk_fz pk_fz)) (ev_truB)) (fun _ => ?_) (fun _ => ?_)
  · refine ws_set (w_ev (rep := fe (α := Bool)) (ev_k)) fun fits => ?_
    exact ws_end fun _ o => ⟨.inl rfl, (some (fe (x : T3 (Tu Str) Str Int)), some (fe (many : Int)), some (fe (below : Bool))), rfl, o⟩
  · refine ws_skip ?_
    exact ws_end fun _ o => ⟨.inl rfl, (some (fe (x : T3 (Tu Str) Str Int)), some (fe (many : Int)), some (fe (below : Bool))), rfl, o⟩
theorem lb_l_takes_1 (make : Str) (q0 : List Str) (o0 : Option D) : ∀ (s : Unit) (j : Option D × Option D × Option D × Option D × Option D × Option D) (x : T2 (Tu Str) (Tu (T3 (Tu Str) Str Int))), Wk ([(0, .lst (List.map em (q0 : List Str)))]) (n_l_takes_1 make q0 s x) (b_l_takes_1 ([o0, some (fe (make : Str)), some (.cell 0), some (fe (x.a : Tu Str)), some (fe (x.b : Tu (T3 (Tu Str) Str Int))), j.2.2.1, j.2.2.2.1, j.2.2.2.2.1, j.2.2.2.2.2, none])) (QC (fun (s : Unit) (j : Option D × Option D × Option D × Option D × Option D × Option D) => [o0, some (fe (make : Str)), some (.cell 0), j.1, j.2.1, j.2.2.1, j.2.2.2.1, j.2.2.2.2.1, j.2.2.2.2.2, none]) (fun s j => [(0, .lst (List.map em (q0 : List Str)))]) (QF1 (fun s : List Str => Ct.lst (List.map em s)))) X0 := fun s j x => by
  unfold n_l_takes_1
  delta b_l_takes_1
  refine ws_last ?_
  refine ws_assoc ?_
  refine ws_set (rep := fe (α := Bool)) (L' := fun (_ : Bool) => [(0, .lst (List.map em (q0 : List Str)))]) ?_ fun fits => ?_
  · exact w_call (w_cons (we (ev_var rfl) (w_cons (we (ev_var rfl) (w_nil (w_calm (w_call0 (sp_l_in_group x.a make) rfl (fun _ _ => trivial))))))))
  refine ws_assoc ?_
  refine ws_cut (J := Option D × Option D × Option D) (E := fun (s9 : Bool) (j9 : Option D × Option D × Option D) => [o0, some (fe (make : Str)), some (.cell 0), some (fe (x.a : Tu Str)), some (fe (x.b : Tu (T3 (Tu Str) Str Int))), some (fe (s9 : Bool)), j9.1, j9.2.1, j9.2.2, none]) (Lf := fun s9 j9 => [(0, .lst (List.map em (q0 : List Str)))]) ?_ fun fits2 j_ => ?_
  · refine w_forP (it := x.b.l) (ev_var rfl) (src_t (fz_fz)) ?_
    exact loop_fold (E := fun (s9 : Bool) (j9 : Option D × Option D × Option D) => [o0, some (fe (make : Str)), some (.cell 0), some (fe (x.a : Tu Str)), some (fe (x.b : Tu (T3 (Tu Str) Str Int))), some (fe (s9 : Bool)), j9.1, j9.2.1, j9.2.2, none]) (Lf := fun s9 j9 => [(0, .lst (List.map em (q0 : List Str)))]) (h := em) (fun _ _ _ _ => rfl) (lb_l_takes_2 q0 o0 (some (fe (make : Str))) (some (fe (x.a : Tu Str))) (some (fe (x.b : Tu (T3 (Tu Str) Str Int))))) _ fits (j.2.2.2.1, j.2.2.2.2.1, j.2.2.2.2.2)
  refine ws_ifP (ev_tru (ev_var rfl) (ev_truB)) (fun _ => ?_) (fun _ => ?_)
  · exact ws_ret0 (ev_k) fun _ o => ⟨qf1 0 rfl o, _, rfl⟩
  · refine ws_skip ?_
    exact ws_end fun _ o => ⟨.inl rfl, (some (fe (x.a : Tu Str)), some (fe (x.b : Tu (T3 (Tu Str) Str Int))), some (fe (fits2 : Bool)), j_.1, j_.2.1, j_.2.2), rfl, o⟩
theorem sp_l_takes (rules : List (T2 (Tu Str) (Tu (T3 (Tu Str) Str Int)))) (make : Str) (seen : List Str) : Sp1 (fun s : List Str => Ct.lst (List.map em s)) (n_l_takes rules make seen) F_l_takes [em (rules : List (T2 (Tu Str) (Tu (T3 (Tu Str) Str Int)))), em (make : Str)] [] (.lst (List.map em seen)) := by
  refine sp1_of (fun _ => rfl) rfl [some (fe (rules : List (T2 (Tu Str) (Tu (T3 (Tu Str) Str Int))))), some (fe (make : Str)), some (.cell 0), none, none, none, none, none, none, none] rfl ?_
  unfold n_l_takes
  delta b_l_takes
  refine ws_last ?_
  refine ws_assoc ?_
  refine ws_cutL (J := Option D × Option D × Option D × Option D × Option D × Option D) (E := fun (s9 : Unit) (j9 : Option D × Option D × Option D × Option D × Option D × Option D) => [some (fe (rules : List (T2 (Tu Str) (Tu (T3 (Tu Str) Str Int))))), some (fe (make : Str)), some (.cell 0), j9.1, j9.2.1, j9.2.2.1, j9.2.2.2.1, j9.2.2.2.2.1, j9.2.2.2.2.2, none]) (Lf := fun s9 j9 => [(0, .lst (List.map em (seen : List Str)))]) (Qr := (QF1 (fun s : List Str => Ct.lst (List.map em s)))) (kr := (fun v => v)) ?_ (fun u_ j_ => ?_) (fun _ _ h _ => h)
  · refine w_forP (it := rules) (ev_var rfl) (src_l (fz_fz)) ?_
    exact loop_lc (E := fun (s9 : Unit) (j9 : Option D × Option D × Option D × Option D × Option D × Option D) => [some (fe (rules : List (T2 (Tu Str) (Tu (T3 (Tu Str) Str Int))))), some (fe (make : Str)), some (.cell 0), j9.1, j9.2.1, j9.2.2.1, j9.2.2.2.1, j9.2.2.2.2.1, j9.2.2.2.2.2, none]) (Lf := fun s9 j9 => [(0, .lst (List.map em (seen : List Str)))]) (h := em) (fun _ _ _ _ => rfl) (lb_l_takes_1 make seen (some (fe (rules : List (T2 (Tu Str) (Tu (T3 (Tu Str) Str Int))))))) _ () (none, none, none, none, none, none)
  exact ws_ret0 (ev_k) fun _ o => qf1 0 rfl o
theorem lb_l_takes_F_2 (seen : List Str) (o0 : Option D) (o1 : Option D) (o3 : Option D) (o4 : Option D) : ∀ (s : Bool) (j : Option D × Option D × Option D) (x : T3 (Tu Str) Str Int), Wk ([]) (n_l_takes_F_2 seen s x) (b_l_takes_2 ([o0, o1, some (fe (seen : List Str)), o3, o4, some (fe (s : Bool)), some (fe (x : T3 (Tu Str) Str Int)), j.2.1, j.2.2, none])) (QB (fun (s : Bool) (j : Option D × Option D × Option D) => [o0, o1, some (fe (seen : List Str)), o3, o4, some (fe (s : Bool)), j.1, j.2.1, j.2.2, none]) (fun s j => [])) XT := fun s j x => by
  unfold n_l_takes_F_2
  delta b_l_takes_2
  refine ws_last ?_
  refine ws_assoc ?_
  refine ws_set (rep := fe (α := Int)) (L' := fun (_ : Int) => []) ?_ fun many => ?_
  · exact w_ap (w_cons (wv (w_lcCF (ev_var rfl) (w_lcL (it := fun xs => xs) (w_ev (rep := fe) (ev_var rfl)) (fun _ => src_l fz_fz) (fun xs => lcZ_walk (fun (other : Str) => w_tru (wv (w_call (w_cons (we (ev_bin (ev_var rfl) (ev_k) (ev_tix (q := em (x.a : Tu Str)))) (w_cons (we (ev_var rfl) (w_nil (w_call0 (sp_l_in_group x.a other) rfl (fun _ _ => trivial)))))))) fun g_ => w_ev (rep := id) (ev_truB))) (fun (other : Str) => w_ev (rep := fe) (ev_var rfl)) _))) fun g_2 => (w_nil (w_ev (rep := fe) (ev_len pk_fz)))))
  refine ws_assoc ?_
  refine ws_set (rep := fe (α := Bool)) (L' := fun (_ : Bool) => []) ?_ fun below => ?_
  · exact w_bin (we (ev_bin (ev_var rfl) (ev_k) (ev_tix (q := em (x.b : Str)))) (we (ev_k) (w_eqM pk_fz pk_fz)))
  refine ws_ifP (ev_tru (ev_bin (ev_var rfl) (ev_bin (ev_var rfl) (ev_bin (ev_var rfl) (ev_k) (ev_tix (q := em (x.c : Int)))) (ev_lt)) (ev_ne (α := Bool) pk_fz pk_fz)) (ev_truB)) (fun _ => ?_) (fun _ => ?_)
  · refine ws_set (w_ev (rep := fe (α := Bool)) (ev_k)) fun fits => ?_
    exact ws_end fun _ o => ⟨.inl rfl, (some (fe (x : T3 (Tu Str) Str Int)), some (fe (many : Int)), some (fe (below : Bool))), rfl, o⟩
  · refine ws_skip ?_
    exact ws_end fun _ o => ⟨.inl rfl, (some (fe (x : T3 (Tu Str) Str Int)), some (fe (many : Int)), some (fe (below : Bool))), rfl, o⟩
theorem lb_l_takes_F_1 (make : Str) (seen : List Str) (o0 : Option D) : ∀ (s : Unit) (j : Option D × Option D × Option D × Option D × Option D × Option D) (x : T2 (Tu Str) (Tu (T3 (Tu Str) Str Int))), Wk ([]) (n_l_takes_F_1 make seen s x) (b_l_takes_1 ([o0, some (fe (make : Str)), some (fe (seen : List Str)), some (fe (x.a : Tu Str)), some (fe (x.b : Tu (T3 (Tu Str) Str Int))), j.2.2.1, j.2.2.2.1, j.2.2.2.2.1, j.2.2.2.2.2, none])) (QC (fun (s : Unit) (j : Option D × Option D × Option D × Option D × Option D × Option D) => [o0, some (fe (make : Str)), some (fe (seen : List Str)), j.1, j.2.1, j.2.2.1, j.2.2.2.1, j.2.2.2.2.1, j.2.2.2.2.2, none]) (fun s j => []) QF0) XT := fun s j x => by
  unfold n_l_takes_F_1
  delta b_l_takes_1
  refine ws_last ?_
  refine ws_assoc ?_
  refine ws_set (rep := fe (α := Bool)) (L' := fun (_ : Bool) => []) ?_ fun fits => ?_
  · exact w_call (w_cons (we (ev_var rfl) (w_cons (we (ev_var rfl) (w_nil (w_call0 (sp_l_in_group x.a make) rfl (fun _ _ => trivial)))))))
  refine ws_assoc ?_
  refine ws_cut (J := Option D × Option D × Option D) (E := fun (s9 : Bool) (j9 : Option D × Option D × Option D) => [o0, some (fe (make : Str)), some (fe (seen : List Str)), some (fe (x.a : Tu Str)), some (fe (x.b : Tu (T3 (Tu Str) Str Int))), some (fe (s9 : Bool)), j9.1, j9.2.1, j9.2.2, none]) (Lf := fun s9 j9 => []) ?_ fun fits2 j_ => ?_
  · refine w_forP (it := x.b.l) (ev_var rfl) (src_t (fz_fz)) ?_
    exact loop_fold (E := fun (s9 : Bool) (j9 : Option D × Option D × Option D) => [o0, some (fe (make : Str)), some (fe (seen : List Str)), some (fe (x.a : Tu Str)), some (fe (x.b : Tu (T3 (Tu Str) Str Int))), some (fe (s9 : Bool)), j9.1, j9.2.1, j9.2.2, none]) (Lf := fun s9 j9 => []) (h := em) (fun _ _ _ _ => rfl) (lb_l_takes_F_2 seen o0 (some (fe (make : Str))) (some (fe (x.a : Tu Str))) (some (fe (x.b : Tu (T3 (Tu Str) Str Int))))) _ fits (j.2.2.2.1, j.2.2.2.2.1, j.2.2.2.2.2)
  refine ws_ifP (ev_tru (ev_var rfl) (ev_truB)) (fun _ => ?_) (fun _ => ?_)
  · exact ws_ret0 (ev_k) fun _ o => ⟨qf0 fz_fz o, _, rfl⟩
  · refine ws_skip ?_
    exact ws_end fun _ o => ⟨.inl rfl, (some (fe (x.a : Tu Str)), some (fe (x.b : Tu (T3 (Tu Str) Str Int))), some (fe (fits2 : Bool)), j_.1, j_.2.1, j_.2.2), rfl, o⟩
theorem sp_l_takes_F (rules : List (T2 (Tu Str) (Tu (T3 (Tu Str) Str Int)))) (make : Str) (seen : List Str) : Sp0 (n_l_takes_F rules make seen) F_l_takes [em (rules : List (T2 (Tu Str) (Tu (T3 (Tu Str) Str Int)))), em (make : Str), em (seen : List Str)] := by
  refine sp0_of rfl [some (fe (rules : List (T2 (Tu Str) (Tu (T3 (Tu Str) Str Int))))), some (fe (make : Str)), some (fe (seen : List Str)), none, none, none, none, none, none, none] rfl ?_
  unfold n_l_takes_F
  delta b_l_takes
  refine ws_last ?_
  refine ws_assoc ?_
  refine ws_cutL (J := Option D × Option D × Option D × Option D × Option D × Option D) (E := fun (s9 : Unit) (j9 : Option D × Option D × Option D × Option D × Option D × Option D) => [some (fe (rules : List (T2 (Tu Str) (Tu (T3 (Tu Str) Str Int))))), some (fe (make : Str)), some (fe (seen : List Str)), j9.1, j9.2.1, j9.2.2.1, j9.2.2.2.1, j9.2.2.2.2.1, j9.2.2.2.2.2, none]) (Lf := fun s9 j9 => []) (Qr := QF0) (kr := (fun v => v)) ?_ (fun u_ j_ => ?_) (fun _ _ h _ => h)
  · refine w_forP (it := rules) (ev_var rfl) (src_l (fz_fz)) ?_
    exact loop_lc (E := fun (s9 : Unit) (j9 : Option D × Option D × Option D × Option D × Option D × Option D) => [some (fe (rules : List (T2 (Tu Str) (Tu (T3 (Tu Str) Str Int))))), some (fe (make : Str)), some (fe (seen : List Str)), j9.1, j9.2.1, j9.2.2.1, j9.2.2.2.1, j9.2.2.2.2.1, j9.2.2.2.2.2, none]) (Lf := fun s9 j9 => []) (h := em) (fun _ _ _ _ => rfl) (lb_l_takes_F_1 make seen (some (fe (rules : List (T2 (Tu Str) (Tu (T3 (Tu Str) Str Int))))))) _ () (none, none, none, none, none, none)
  exact ws_ret0 (ev_k) fun _ o => qf0 fz_fz o
theorem lb_l_steps_1 (makes : List Str) (rules : List (T2 (Tu Str) (Tu (T3 (Tu Str) Str Int)))) (o2 : Option D) (n0 : Nat) (n1 : Nat) : ∀ (s : (List Str) × (List (T2 Int Bool))) (j : Option D) (x : Int), Wk ([(n0, .lst (List.map em (s.1 : List Str))), (n1, .lst (List.map em (s.2 : List (T2 Int Bool))))]) (n_l_steps_1 makes rules s x) (b_l_steps_1 ([some (fe (makes : List Str)), some (fe (rules : List (T2 (Tu Str) (Tu (T3 (Tu Str) Str Int))))), o2, some (.cell n0), some (.cell n1), some (fe (x : Int))])) (QB (fun (s : (List Str) × (List (T2 Int Bool))) (j : Option D) => [some (fe (makes : List Str)), some (fe (rules : List (T2 (Tu Str) (Tu (T3 (Tu Str) Str Int))))), o2, some (.cell n0), some (.cell n1), j]) (fun s j => [(n0, .lst (List.map em (s.1 : List Str))), (n1, .lst (List.map em (s.2 : List (T2 Int Bool))))])) XT := fun s j x => by
  unfold n_l_steps_1
  delta b_l_steps_1
  refine ws_last ?_
  refine ws_assoc ?_
  refine ws_append (rep := fun (g : (T2 Int Bool) × List Str) => fe g.1) (L' := fun (g : (T2 Int Bool) × List Str) => [(n0, .lst (List.map em (g.2 : List Str))), (n1, .lst (List.map em (s.2 : List (T2 Int Bool))))]) (v := fun (g_3 : (T2 Int Bool) × List Str) => (g_3.1 : T2 Int Bool)) (ys := fun (g_3 : (T2 Int Bool) × List Str) => s.2) (kp := 1) ?_ rfl rfl (fun _ => fz_fz) (fun _ => rfl) fun g_3 steps => ?_
  · exact w_ap (w_cons (we (ev_var rfl) (w_cons (wv (w_call (w_cons (we (ev_var rfl) (w_cons (wv (w_bin (we (ev_var rfl) (we (ev_var rfl) (w_idx pk_fz)))) fun g_ => (w_cons (we (ev_var rfl) (w_nil (w_call1 0 (sp_l_takes rules g_ s.1) rfl rfl rfl (fun _ => rfl)))))))))) fun g_2 => (w_nil (w_ok (rep := fun (g : (T2 Int Bool) × List Str) => fe g.1) (L' := fun (g : (T2 Int Bool) × List Str) => [(n0, .lst (List.map em (g.2 : List Str))), (n1, .lst (List.map em (s.2 : List (T2 Int Bool))))]) (ev_tup [em (x : Int), em (g_2.1 : Bool)]) (fun _ o => o)))))))
  refine ws_append (rep := fe (α := Str)) (L' := fun (_ : Str) => [(n0, .lst (List.map em (g_3.2 : List Str))), (n1, .lst (List.map em (steps : List (T2 Int Bool))))]) (v := fun (g_4 : Str) => (g_4 : Str)) (ys := fun (g_4 : Str) => g_3.2) (kp := 0) ?_ rfl rfl (fun _ => fz_fz) (fun _ => rfl) fun g_4 seen => ?_
  · exact w_bin (we (ev_var rfl) (we (ev_var rfl) (w_idx pk_fz)))
  exact ws_end fun _ o => ⟨.inl rfl, (some (fe (x : Int))), rfl, o⟩
theorem sp_l_steps (makes : List Str) (rules : List (T2 (Tu Str) (Tu (T3 (Tu Str) Str Int)))) (lineup : List Int) : Sp0 (n_l_steps makes rules lineup) F_l_steps [em (makes : List Str), em (rules : List (T2 (Tu Str) (Tu (T3 (Tu Str) Str Int)))), em (lineup : List Int)] := by
  refine sp0_of rfl [some (fe (makes : List Str)), some (fe (rules : List (T2 (Tu Str) (Tu (T3 (Tu Str) Str Int))))), some (fe (lineup : List Int)), none, none, none] rfl ?_
  unfold n_l_steps
  delta b_l_steps
  refine ws_last ?_
  refine ws_assoc ?_
  refine ws_setN (w_newL (ev_nil)) fun seen n_ => ?_
  refine ws_assoc ?_
  refine ws_setN (w_newL (ev_nil)) fun steps n_2 => ?_
  refine ws_assoc ?_
  refine ws_cut (J := Option D) (E := fun (s9 : (List Str) × (List (T2 Int Bool))) (j9 : Option D) => [some (fe (makes : List Str)), some (fe (rules : List (T2 (Tu Str) (Tu (T3 (Tu Str) Str Int))))), some (fe (lineup : List Int)), some (.cell n_), some (.cell n_2), j9]) (Lf := fun s9 j9 => [(n_, .lst (List.map em (s9.1 : List Str))), (n_2, .lst (List.map em (s9.2 : List (T2 Int Bool))))]) ?_ fun q_q j_ => ?_
  · refine w_forP (it := lineup) (ev_var rfl) (src_l (fz_fz)) ?_
    exact loop_fold (E := fun (s9 : (List Str) × (List (T2 Int Bool))) (j9 : Option D) => [some (fe (makes : List Str)), some (fe (rules : List (T2 (Tu Str) (Tu (T3 (Tu Str) Str Int))))), some (fe (lineup : List Int)), some (.cell n_), some (.cell n_2), j9]) (Lf := fun s9 j9 => [(n_, .lst (List.map em (s9.1 : List Str))), (n_2, .lst (List.map em (s9.2 : List (T2 Int Bool))))]) (h := em) (fun _ _ _ _ => rfl) (lb_l_steps_1 makes rules (some (fe (lineup : List Int))) n_ n_2) _ (seen, steps) none
  exact ws_ret0 (ev_var rfl) fun _ o => qf0 (fz_c 1) o
theorem lb_l_first_1  (o0 : Option D) : ∀ (s : Unit) (j : Option D) (x : T2 Int Bool), Wk ([]) (n_l_first_1 s x) (b_l_first_1 ([o0, some (fe (x : T2 Int Bool))])) (QC (fun (s : Unit) (j : Option D) => [o0, j]) (fun s j => []) QF0) XT := fun s j x => by
  unfold n_l_first_1
  delta b_l_first_1
  refine ws_last ?_
  refine ws_ifP (ev_tru (ev_bin (ev_var rfl) (ev_k) (ev_tix (q := em (x.b : Bool)))) (ev_truB)) (fun _ => ?_) (fun _ => ?_)
  · exact ws_ret0 (ev_bin (ev_var rfl) (ev_k) (ev_tix (q := em (x.a : Int)))) fun _ o => ⟨qf0 fz_fz o, _, rfl⟩
  · refine ws_skip ?_
    exact ws_end fun _ o => ⟨.inl rfl, (some (fe (x : T2 Int Bool))), rfl, o⟩
theorem sp_l_first (steps : List (T2 Int Bool)) : Sp0 (n_l_first steps) F_l_first [em (steps : List (T2 Int Bool))] := by
  refine sp0_of rfl [some (fe (steps : List (T2 Int Bool))), none] rfl ?_
  unfold n_l_first
  delta b_l_first
  refine ws_last ?_
  refine ws_assoc ?_
  refine ws_cutL (J := Option D) (E := fun (s9 : Unit) (j9 : Option D) => [some (fe (steps : List (T2 Int Bool))), j9]) (Lf := fun s9 j9 => []) (Qr := QF0) (kr := (fun v => v)) ?_ (fun u_ j_ => ?_) (fun _ _ h _ => h)
  · refine w_forP (it := steps) (ev_var rfl) (src_l (fz_fz)) ?_
    exact loop_lc (E := fun (s9 : Unit) (j9 : Option D) => [some (fe (steps : List (T2 Int Bool))), j9]) (Lf := fun s9 j9 => []) (h := em) (fun _ _ _ _ => rfl) (lb_l_first_1 (some (fe (steps : List (T2 Int Bool))))) _ () none
  refine ws_ret (rep := fe (α := Int)) (L' := fun (_ : Int) => []) ?_ fun _ _ o => qf0 fz_fz o
  exact w_bin (wv (w_bin (we (ev_var rfl) (we (ev_k) (w_idx pk_fz)))) fun g_ => (we (ev_k) (w_ev (rep := fe) (ev_tix (q := em (g_.a : Int))))))
theorem sp_present (ranking : List Int) (yard : Tu Int) : Sp0 (n_present ranking yard) F_present [em (ranking : List Int), em (yard : Tu Int)] := by
  refine sp0_of rfl [some (fe (ranking : List Int)), some (fe (yard : Tu Int)), none] rfl ?_
  unfold n_present
  delta b_present
  refine ws_last ?_
  refine ws_ret (rep := fe (α := List Int)) (L' := fun (_ : List Int) => []) ?_ fun _ _ o => qf0 fz_fz o
  exact w_lcL (it := fun xs => xs) (w_ev (rep := fe) (ev_var rfl)) (fun _ => src_l fz_fz) (fun xs => lcZ_walk (fun (worker : Int) => w_ev (rep := id) (ev_tru (ev_bin (ev_var rfl) (ev_var rfl) (ev_inIT pk_fz)) (ev_truB))) (fun (worker : Int) => w_ev (rep := fe) (ev_var rfl)) _)
theorem lb_l_same_steps_1  (o0 : Option D) (o1 : Option D) : ∀ (s : Unit) (j : Option D) (x : T2 Int Bool), Wk ([]) (n_l_same_steps_1 s x) (b_l_same_steps_1 ([o0, o1, some (fe (x : T2 Int Bool))])) (QC (fun (s : Unit) (j : Option D) => [o0, o1, j]) (fun s j => []) QF0) XT := fun s j x => by
  unfold n_l_same_steps_1
  delta b_l_same_steps_1
  refine ws_last ?_
  refine ws_ifP (ev_or (ev_not (ev_tru (ev_un (ev_var rfl) (ev_isi (p := em (x : T2 Int Bool)) pk_fz (by rfl))) (ev_truB))) (ev_or (ev_tru (ev_un (ev_bin (ev_var rfl) (ev_k) (ev_tix (q := em (x.a : Int)))) (ev_isi (p := em (x.a : Int)) pk_fz (by rfl))) (ev_truB)) (ev_not (ev_tru (ev_un (ev_bin (ev_var rfl) (ev_k) (ev_tix (q := em (x.b : Bool)))) (ev_isi (p := em (x.b : Bool)) pk_fz (by rfl))) (ev_truB))))) (fun _ => ?_) (fun _ => ?_)
  · exact ws_ret0 (ev_k) fun _ o => ⟨qf0 fz_fz o, _, rfl⟩
  · refine ws_skip ?_
    exact ws_end fun _ o => ⟨.inl rfl, (some (fe (x : T2 Int Bool))), rfl, o⟩
theorem sp_l_same_steps (found : List (T2 Int Bool)) (steps : List (T2 Int Bool)) : Sp0 (n_l_same_steps found steps) F_l_same_steps [em (found : List (T2 Int Bool)), em (steps : List (T2 Int Bool))] := by
  refine sp0_of rfl [some (fe (found : List (T2 Int Bool))), some (fe (steps : List (T2 Int Bool))), none] rfl ?_
  unfold n_l_same_steps
  delta b_l_same_steps
  refine ws_last ?_
  refine ws_assoc ?_
  refine ws_ifP (ev_or (ev_not (ev_tru (ev_un (ev_var rfl) (ev_isi (p := em (found : List (T2 Int Bool))) pk_fz (by rfl))) (ev_truB))) (ev_tru (ev_bin (ev_var rfl) (ev_var rfl) (ev_ne (α := (List (T2 Int Bool))) pk_fz pk_fz)) (ev_truB))) (fun _ => ?_) (fun _ => ?_)
  · exact ws_ret0 (ev_k) fun _ o => qf0 fz_fz o
  · refine ws_skip ?_
    refine ws_assoc ?_
    refine ws_cutL (J := Option D) (E := fun (s9 : Unit) (j9 : Option D) => [some (fe (found : List (T2 Int Bool))), some (fe (steps : List (T2 Int Bool))), j9]) (Lf := fun s9 j9 => []) (Qr := QF0) (kr := (fun v => v)) ?_ (fun u_ j_ => ?_) (fun _ _ h _ => h)
    · refine w_forP (it := found) (ev_var rfl) (src_l (fz_fz)) ?_
      exact loop_lc (E := fun (s9 : Unit) (j9 : Option D) => [some (fe (found : List (T2 Int Bool))), some (fe (steps : List (T2 Int Bool))), j9]) (Lf := fun s9 j9 => []) (h := em) (fun _ _ _ _ => rfl) (lb_l_same_steps_1 (some (fe (found : List (T2 Int Bool)))) (some (fe (steps : List (T2 Int Bool))))) _ () none
    exact ws_ret0 (ev_k) fun _ o => qf0 fz_fz o
theorem sp_Crew_len (self : Crew) : Sp0 (n_Crew_len self) F_Crew_len [em (self : Crew)] := by
  refine sp0_of rfl [some (fe (self : Crew))] rfl ?_
  unfold n_Crew_len
  delta b_Crew_len
  refine ws_last ?_
  exact ws_ret0 (ev_ap (ev_cons (ev_fld (ev_var rfl) (fun _ => rfl)) (ev_nil)) (ev_len pk_fz)) fun _ o => qf0 fz_fz o
theorem sp_check_ranking (crew : Crew) (ranking : List Int) : Sp0 (n_check_ranking crew ranking) F_check_ranking [em (crew : Crew), em (ranking : List Int)] := by
  refine sp0_of rfl [some (fe (crew : Crew)), some (fe (ranking : List Int))] rfl ?_
  unfold n_check_ranking
  delta b_check_ranking
  refine ws_last ?_
  refine ws_ifG (bv := fun (g : Bool) => g) (L' := fun (g : Bool) => []) ?_ (fun b_ => ?_) (fun b_ => ?_)
  · exact w_tru (wv (w_bin (we (ev_ap (ev_cons (ev_var rfl) (ev_nil)) (ev_sortGL pk_fz)) (wv (w_un (wv (w_ap (w_cons (we (ev_var rfl) (w_nil (w_lenX (fun _ => rfl) (w_call0 (sp_Crew_len crew) rfl (fun _ _ => trivial))))))) fun g_ => (w_lrg))) fun g_2 => (w_ev (rep := fe) (ev_ne (α := (List Int)) pk_fz pk_fz))))) fun g_3 => w_ev (rep := id) (ev_truB))
  · exact ws_raiseT (fun _ _ => trivial)
  · refine ws_skip ?_
    exact ws_end fun _ o => qf0n o
theorem lb_check_yards_1 (crew : Crew) (o1 : Option D) : ∀ (s : Unit) (j : Option D) (x : Tu Int), Wk ([]) (n_check_yards_1 crew s x) (b_check_yards_1 ([some (fe (crew : Crew)), o1, some (fe (x : Tu Int))])) (QB (fun (s : Unit) (j : Option D) => [some (fe (crew : Crew)), o1, j]) (fun s j => [])) XT := fun s j x => by
  unfold n_check_yards_1
  delta b_check_yards_1
  refine ws_last ?_
  refine ws_ifG (bv := fun (g : Bool) => g) (L' := fun (g : Bool) => []) ?_ (fun b_ => ?_) (fun b_ => ?_)
  · exact w_or (w_ev (rep := id) (ev_not (ev_tru (ev_var rfl) (ev_truT pk_fz)))) (fun _ o => ⟨rfl, o⟩) (w_or (w_tru (wv (w_bin (we (ev_ap (ev_cons (ev_var rfl) (ev_nil)) (ev_listT pk_fz)) (wv (w_un (we (ev_var rfl) (w_sortSetT pk_fz))) fun g_ => (w_ev (rep := fe) (ev_ne (α := (List Int)) pk_fz pk_fz))))) fun g_2 => w_ev (rep := id) (ev_truB))) (fun _ o => ⟨rfl, o⟩) (w_or (w_tru (wv (w_bin (wv (w_bin (we (ev_var rfl) (we (ev_k) (w_idxT pk_fz)))) fun g_3 => (we (ev_k) (w_ev (rep := fe) (ev_lt))))) fun g_4 => w_ev (rep := id) (ev_truB))) (fun _ o => ⟨rfl, o⟩) (w_tru (wv (w_bin (wv (w_bin (we (ev_var rfl) (we (ev_un (ev_k) (ev_negI)) (w_idxT pk_fz)))) fun g_5 => (wv (w_ap (w_cons (we (ev_var rfl) (w_nil (w_lenX (fun _ => rfl) (w_call0 (sp_Crew_len crew) rfl (fun _ _ => trivial))))))) fun g_6 => (w_ev (rep := fe) (ev_ge))))) fun g_7 => w_ev (rep := id) (ev_truB)))))
  · exact ws_raiseT (fun _ _ => trivial)
  · refine ws_skip ?_
    exact ws_end fun _ o => ⟨.inl rfl, (some (fe (x : Tu Int))), rfl, o⟩
theorem sp_check_yards (crew : Crew) (yards : List (Tu Int)) : Sp0 (n_check_yards crew yards) F_check_yards [em (crew : Crew), em (yards : List (Tu Int))] := by
  refine sp0_of rfl [some (fe (crew : Crew)), some (fe (yards : List (Tu Int))), none] rfl ?_
  unfold n_check_yards
  delta b_check_yards
  refine ws_last ?_
  refine ws_cut (J := Option D) (E := fun (s9 : Unit) (j9 : Option D) => [some (fe (crew : Crew)), some (fe (yards : List (Tu Int))), j9]) (Lf := fun s9 j9 => []) ?_ fun u_ j_ => ?_
  · refine w_forP (it := yards) (ev_var rfl) (src_l (fz_fz)) ?_
    exact loop_fold (E := fun (s9 : Unit) (j9 : Option D) => [some (fe (crew : Crew)), some (fe (yards : List (Tu Int))), j9]) (Lf := fun s9 j9 => []) (h := em) (fun _ _ _ _ => rfl) (lb_check_yards_1 crew (some (fe (yards : List (Tu Int))))) _ () none
  exact ws_end fun _ o => qf0n o
theorem sp_Crew_make_of (self : Crew) (worker : Int) : Sp0 (n_Crew_make_of self worker) F_Crew_make_of [em (self : Crew), em (worker : Int)] := by
  refine sp0_of rfl [some (fe (self : Crew)), some (fe (worker : Int))] rfl ?_
  unfold n_Crew_make_of
  delta b_Crew_make_of
  refine ws_last ?_
  refine ws_ret (rep := fe (α := Str)) (L' := fun (_ : Str) => []) ?_ fun _ _ o => qf0 fz_fz o
  exact w_bin (wv (w_bin (we (ev_fld (ev_var rfl) (fun _ => rfl)) (we (ev_var rfl) (w_idx pk_fz)))) fun g_ => (we (ev_k) (w_ev (rep := fe) (ev_tix (q := em (g_.b : Str))))))
theorem sp_belongs (make : Str) (group : Tu Str) : Sp0 (n_belongs make group) F_belongs [em (make : Str), em (group : Tu Str)] := by
  refine sp0_of rfl [some (fe (make : Str)), some (fe (group : Tu Str))] rfl ?_
  unfold n_belongs
  delta b_belongs
  refine ws_last ?_
  refine ws_ret (rep := fe (α := Bool)) (L' := fun (_ : Bool) => []) ?_ fun _ _ o => qf0 fz_fz o
  exact w_orV (w_bin (we (ev_var rfl) (we (ev_ap (ev_cons (ev_k) (ev_nil)) (ev_tup [em (("any" : Str) : Str)])) (w_eqM pk_fz pk_fz)))) (fun _ o => ⟨rfl, o⟩) (w_bin (wv (w_bin (we (ev_var rfl) (we (ev_k) (w_idxT pk_fz)))) fun g_ => (we (ev_var rfl) (w_eqM pk_fz pk_fz))))
theorem sp_bound_holds (bound : T3 (Tu Str) Str Int) (seen : List Str) : Sp0 (n_bound_holds bound seen) F_bound_holds [em (bound : T3 (Tu Str) Str Int), em (seen : List Str)] := by
  refine sp0_of rfl [some (fe (bound : T3 (Tu Str) Str Int)), some (fe (seen : List Str)), none, none, none, none, none] rfl ?_
  unfold n_bound_holds
  delta b_bound_holds
  refine ws_last ?_
  refine ws_assoc ?_
  refine ws_unp (rep := fe (α := T3 (Tu Str) Str Int)) (L' := fun (_ : T3 (Tu Str) Str Int) => []) ?_ (fun _ => pk_fz) (fun _ _ => rfl) fun t_ => ?_
  · exact w_ev (rep := fe) (ev_var rfl)
  refine ws_assoc ?_
  refine ws_set (rep := fe (α := Int)) (L' := fun (_ : Int) => []) ?_ fun count => ?_
  · exact w_ap (w_cons (wv (w_lcL (it := fun xs => xs) (w_ev (rep := fe) (ev_var rfl)) (fun _ => src_l fz_fz) (fun xs => lcZ_walk (fun (make : Str) => w_tru (wv (w_call (w_cons (we (ev_var rfl) (w_cons (we (ev_var rfl) (w_nil (w_call0 (sp_belongs make t_.a) rfl (fun _ _ => trivial)))))))) fun g_ => w_ev (rep := id) (ev_truB))) (fun (make : Str) => w_ev (rep := fe) (ev_var rfl)) _)) fun g_2 => (w_nil (w_ev (rep := fe) (ev_len pk_fz)))))
  refine ws_assoc ?_
  refine ws_ifG (bv := fun (g : Bool) => g) (L' := fun (g : Bool) => []) ?_ (fun b_ => ?_) (fun b_ => ?_)
  · exact w_tru (wv (w_bin (we (ev_var rfl) (we (ev_k) (w_eqM pk_fz pk_fz)))) fun g_3 => w_ev (rep := id) (ev_truB))
  · exact ws_ret0 (ev_bin (ev_var rfl) (ev_var rfl) (ev_lt)) fun _ o => qf0 fz_fz o
  · refine ws_skip ?_
    exact ws_ret0 (ev_bin (ev_var rfl) (ev_var rfl) (ev_ge)) fun _ o => qf0 fz_fz o
theorem lb_Scheme_takes_1 (make : Str) (seen : List Str) (o0 : Option D) : ∀ (s : Unit) (j : Option D × Option D) (x : T2 (Tu Str) (Tu (T3 (Tu Str) Str Int))), Wk ([]) (n_Scheme_takes_1 make seen s x) (b_Scheme_takes_1 ([o0, some (fe (make : Str)), some (fe (seen : List Str)), some (fe (x.a : Tu Str)), some (fe (x.b : Tu (T3 (Tu Str) Str Int))), none])) (QC (fun (s : Unit) (j : Option D × Option D) => [o0, some (fe (make : Str)), some (fe (seen : List Str)), j.1, j.2, none]) (fun s j => []) QF0) XT := fun s j x => by
  unfold n_Scheme_takes_1
  delta b_Scheme_takes_1
  refine ws_last ?_
  refine ws_ifG (bv := fun (g : Bool) => g) (L' := fun (g : Bool) => []) ?_ (fun b_ => ?_) (fun b_ => ?_)
  · exact w_and (w_tru (wv (w_call (w_cons (we (ev_var rfl) (w_cons (we (ev_var rfl) (w_nil (w_call0 (sp_belongs make x.a) rfl (fun _ _ => trivial)))))))) fun g_ => w_ev (rep := id) (ev_truB))) (fun _ o => ⟨rfl, o⟩) (w_tru (wv (w_ap (w_cons (wv (w_lcL (it := fun xs => Tu.l xs) (w_ev (rep := fe) (ev_var rfl)) (fun _ => src_t fz_fz) (fun xs => lcZ_walk (fun _ => yes_ok) (fun (bound : T3 (Tu Str) Str Int) => w_call (w_cons (we (ev_var rfl) (w_cons (we (ev_var rfl) (w_nil (w_call0 (sp_bound_holds bound seen) rfl (fun _ _ => trivial)))))))) _)) fun g_2 => (w_nil (w_ev (rep := fe) (ev_allO pk_fz)))))) fun g_3 => w_ev (rep := id) (ev_truB)))
  · exact ws_ret0 (ev_k) fun _ o => ⟨qf0 fz_fz o, _, rfl⟩
  · refine ws_skip ?_
    exact ws_end fun _ o => ⟨.inl rfl, (some (fe (x.a : Tu Str)), some (fe (x.b : Tu (T3 (Tu Str) Str Int)))), rfl, o⟩
theorem sp_Scheme_takes (self : Scheme) (make : Str) (seen : List Str) : Sp0 (n_Scheme_takes self make seen) F_Scheme_takes [em (self : Scheme), em (make : Str), em (seen : List Str)] := by
  refine sp0_of rfl [some (fe (self : Scheme)), some (fe (make : Str)), some (fe (seen : List Str)), none, none, none] rfl ?_
  unfold n_Scheme_takes
  delta b_Scheme_takes
  refine ws_last ?_
  refine ws_assoc ?_
  refine ws_cutL (J := Option D × Option D) (E := fun (s9 : Unit) (j9 : Option D × Option D) => [some (fe (self : Scheme)), some (fe (make : Str)), some (fe (seen : List Str)), j9.1, j9.2, none]) (Lf := fun s9 j9 => []) (Qr := QF0) (kr := (fun v => v)) ?_ (fun u_ j_ => ?_) (fun _ _ h _ => h)
  · refine w_forP (it := self.rules) (ev_fld (ev_var rfl) (fun _ => rfl)) (src_l (fz_fz)) ?_
    exact loop_lc (E := fun (s9 : Unit) (j9 : Option D × Option D) => [some (fe (self : Scheme)), some (fe (make : Str)), some (fe (seen : List Str)), j9.1, j9.2, none]) (Lf := fun s9 j9 => []) (h := em) (fun _ _ _ _ => rfl) (lb_Scheme_takes_1 make seen (some (fe (self : Scheme)))) _ () (none, none)
  exact ws_ret0 (ev_k) fun _ o => qf0 fz_fz o
theorem sp_walked (crew : Crew) (scheme : Scheme) (lineup : List Int) : Sp0 (n_walked crew scheme lineup) F_walked [em (crew : Crew), em (scheme : Scheme), em (lineup : List Int)] := by
  refine sp0_of rfl [some (fe (crew : Crew)), some (fe (scheme : Scheme)), some (fe (lineup : List Int)), none, none, none] rfl ?_
  unfold n_walked
  delta b_walked
  refine ws_last ?_
  refine ws_assoc ?_
  refine ws_set (rep := fe (α := List Str)) (L' := fun (_ : List Str) => []) ?_ fun makes => ?_
  · exact w_lcL (it := fun xs => xs) (w_ev (rep := fe) (ev_var rfl)) (fun _ => src_l fz_fz) (fun xs => lcZ_walk (fun _ => yes_ok) (fun (worker : Int) => w_methO (w_ev (rep := fe) (ev_var rfl)) (fun _ _ => rfl) (fun o_ => w_cons (we (ev_var rfl) (w_nil (w_call0 (sp_Crew_make_of o_ worker) rfl (fun _ _ => trivial)))))) _)
  refine ws_ret (rep := fe (α := List (T2 Int Bool))) (L' := fun (_ : List (T2 Int Bool)) => []) ?_ fun _ _ o => qf0 fz_fz o
  exact w_lcE (xs := lineup) (ev_cons (ev_var rfl) ev_nil) (fz_fz) (lcTZ_walk (h := em) (η1 := fun (x_ : T2 Int Int) => [some (fe (crew : Crew)), some (fe (scheme : Scheme)), some (fe (lineup : List Int)), some (fe (makes : List Str)), some (fe (x_.b : Int)), some (fe (x_.a : Int))]) (fun _ => rfl) (fun _ => yes_okT) (fun (x_ : T2 Int Int) => w_ap (w_cons (we (ev_var rfl) (w_cons (wv (w_methO (w_ev (rep := fe) (ev_var rfl)) (fun _ _ => rfl) (fun o_2 => w_cons (wv (w_bin (we (ev_var rfl) (we (ev_var rfl) (w_idx pk_fz)))) fun g_ => (w_cons (we (ev_slF (ev_var rfl) (ev_nopart) (ev_part (ev_var rfl)) (ev_slL pk_fz)) (w_nil (w_call0 (sp_Scheme_takes o_2 g_ (cut makes none (some x_.a))) rfl (fun _ _ => trivial)))))))) fun g_2 => (w_nil (w_ev (rep := fe) (ev_tup [em (x_.b : Int), em (g_2 : Bool)])))))))) _)
theorem sp_walk (crew : Crew) (scheme : Scheme) (ranking : List Int) (yard : Tu Int) : Sp0 (n_walk crew scheme ranking yard) F_walk [em (crew : Crew), em (scheme : Scheme), em (ranking : List Int), em (yard : Tu Int)] := by
  refine sp0_of rfl [some (fe (crew : Crew)), some (fe (scheme : Scheme)), some (fe (ranking : List Int)), some (fe (yard : Tu Int))] rfl ?_
  unfold n_walk
  delta b_walk
  refine ws_last ?_
  refine ws_assoc ?_
  refine ws_ex (rep := fe (α := Unit)) (L' := fun (_ : Unit) => []) ?_ fun u_ => ?_
  · exact w_call (w_cons (we (ev_var rfl) (w_cons (we (ev_var rfl) (w_nil (w_call0 (sp_check_ranking crew ranking) rfl (fun _ _ => trivial)))))))
  refine ws_assoc ?_
  refine ws_ex (rep := fe (α := Unit)) (L' := fun (_ : Unit) => []) ?_ fun u_2 => ?_
  · exact w_call (w_cons (we (ev_var rfl) (w_cons (we (ev_ap (ev_cons (ev_var rfl) (ev_nil)) (ev_lst [em (yard : Tu Int)])) (w_nil (w_call0 (sp_check_yards crew ([yard] : List (Tu Int))) rfl (fun _ _ => trivial)))))))
  refine ws_ret (rep := fe (α := List (T2 Int Bool))) (L' := fun (_ : List (T2 Int Bool)) => []) ?_ fun _ _ o => qf0 fz_fz o
  exact w_call (w_cons (we (ev_var rfl) (w_cons (we (ev_var rfl) (w_cons (wv (w_call (w_cons (we (ev_var rfl) (w_cons (we (ev_var rfl) (w_nil (w_call0 (sp_present ranking yard) rfl (fun _ _ => trivial)))))))) fun g_ => (w_nil (w_call0 (sp_walked crew scheme g_) rfl (fun _ _ => trivial)))))))))
theorem sp_l_is_worker (found : Int) (worker : Int) : Sp0 (n_l_is_worker found worker) F_l_is_worker [em (found : Int), em (worker : Int)] := by
  refine sp0_of rfl [some (fe (found : Int)), some (fe (worker : Int))] rfl ?_
  unfold n_l_is_worker
  delta b_l_is_worker
  refine ws_last ?_
  exact ws_ret0 (ev_andV (ev_un (ev_var rfl) (ev_isi (p := em (found : Int)) pk_fz (by rfl))) (ev_andV (ev_notV (ev_un (ev_var rfl) (ev_isi (p := em (found : Int)) pk_fz (by rfl)))) (ev_bin (ev_var rfl) (ev_var rfl) (ev_eq (α := Int) pk_fz pk_fz)))) fun _ o => qf0 fz_fz o
theorem lb_first_taken_1  (o0 : Option D) : ∀ (s : Unit) (j : Option D × Option D) (x : T2 Int Bool), Wk ([]) (n_first_taken_1 s x) (b_first_taken_1 ([o0, some (fe (x.a : Int)), some (fe (x.b : Bool))])) (QC (fun (s : Unit) (j : Option D × Option D) => [o0, j.1, j.2]) (fun s j => []) QF0) XT := fun s j x => by
  unfold n_first_taken_1
  delta b_first_taken_1
  refine ws_last ?_
  refine ws_ifP (ev_tru (ev_var rfl) (ev_truB)) (fun _ => ?_) (fun _ => ?_)
  · exact ws_ret0 (ev_var rfl) fun _ o => ⟨qf0 fz_fz o, _, rfl⟩
  · refine ws_skip ?_
    exact ws_end fun _ o => ⟨.inl rfl, (some (fe (x.a : Int)), some (fe (x.b : Bool))), rfl, o⟩
theorem sp_first_taken (steps : List (T2 Int Bool)) : Sp0 (n_first_taken steps) F_first_taken [em (steps : List (T2 Int Bool))] := by
  refine sp0_of rfl [some (fe (steps : List (T2 Int Bool))), none, none] rfl ?_
  unfold n_first_taken
  delta b_first_taken
  refine ws_last ?_
  refine ws_assoc ?_
  refine ws_cutL (J := Option D × Option D) (E := fun (s9 : Unit) (j9 : Option D × Option D) => [some (fe (steps : List (T2 Int Bool))), j9.1, j9.2]) (Lf := fun s9 j9 => []) (Qr := QF0) (kr := (fun v => v)) ?_ (fun u_ j_ => ?_) (fun _ _ h _ => h)
  · refine w_forP (it := steps) (ev_var rfl) (src_l (fz_fz)) ?_
    exact loop_lc (E := fun (s9 : Unit) (j9 : Option D × Option D) => [some (fe (steps : List (T2 Int Bool))), j9.1, j9.2]) (Lf := fun s9 j9 => []) (h := em) (fun _ _ _ _ => rfl) (lb_first_taken_1 (some (fe (steps : List (T2 Int Bool))))) _ () (none, none)
  refine ws_ret (rep := fe (α := Int)) (L' := fun (_ : Int) => []) ?_ fun _ _ o => qf0 fz_fz o
  exact w_bin (wv (w_bin (we (ev_var rfl) (we (ev_k) (w_idx pk_fz)))) fun g_ => (we (ev_k) (w_ev (rep := fe) (ev_tix (q := em (g_.a : Int))))))
theorem sp_holder (crew : Crew) (scheme : Scheme) (ranking : List Int) (yard : Tu Int) : Sp0 (n_holder crew scheme ranking yard) F_holder [em (crew : Crew), em (scheme : Scheme), em (ranking : List Int), em (yard : Tu Int)] := by
  refine sp0_of rfl [some (fe (crew : Crew)), some (fe (scheme : Scheme)), some (fe (ranking : List Int)), some (fe (yard : Tu Int))] rfl ?_
  unfold n_holder
  delta b_holder
  refine ws_last ?_
  refine ws_ret (rep := fe (α := Int)) (L' := fun (_ : Int) => []) ?_ fun _ _ o => qf0 fz_fz o
  exact w_call (w_cons (wv (w_call (w_cons (we (ev_var rfl) (w_cons (we (ev_var rfl) (w_cons (we (ev_var rfl) (w_cons (we (ev_var rfl) (w_nil (w_call0 (sp_walk crew scheme ranking yard) rfl (fun _ _ => trivial)))))))))))) fun g_ => (w_nil (w_call0 (sp_first_taken g_) rfl (fun _ _ => trivial)))))
theorem lb_l_rearranged_1 (lineup : List Int) (o0 : Option D) (n0 : Nat) (n1 : Nat) : ∀ (s : (List Int) × (List Int)) (j : Option D) (x : Int), Wk ([(n0, .lst (List.map em (s.1 : List Int))), (n1, .lst (List.map em (s.2 : List Int)))]) (n_l_rearranged_1 lineup s x) (b_l_rearranged_1 ([o0, some (fe (lineup : List Int)), some (.cell n0), some (.cell n1), some (fe (x : Int))])) (QB (fun (s : (List Int) × (List Int)) (j : Option D) => [o0, some (fe (lineup : List Int)), some (.cell n0), some (.cell n1), j]) (fun s j => [(n0, .lst (List.map em (s.1 : List Int))), (n1, .lst (List.map em (s.2 : List Int)))])) XT := fun s j x => by
  unfold n_l_rearranged_1
  delta b_l_rearranged_1
  refine ws_last ?_
  refine ws_ifP (ev_tru (ev_bin (ev_var rfl) (ev_var rfl) (ev_inI pk_fz)) (ev_truB)) (fun _ => ?_) (fun _ => ?_)
  · refine ws_append (rep := fun (g : Int × List Int) => fe g.1) (L' := fun (g : Int × List Int) => [(n0, .lst (List.map em (g.2 : List Int))), (n1, .lst (List.map em (s.2 : List Int)))]) (v := fun (g_ : Int × List Int) => (g_.1 : Int)) (ys := fun (g_ : Int × List Int) => s.2) (kp := 1) ?_ rfl rfl (fun _ => fz_fz) (fun _ => rfl) fun g_ mixed => ?_
    · exact w_popK (kp := 0) (L' := fun (g : Int × List Int) => [(n0, .lst (List.map em (g.2 : List Int))), (n1, .lst (List.map em (s.2 : List Int)))]) (ev_k) rfl rfl (fun _ => rfl)
    exact ws_end fun _ o => ⟨.inl rfl, (some (fe (x : Int))), rfl, o⟩
  · refine ws_append (rep := fe (α := Int)) (L' := fun (_ : Int) => [(n0, .lst (List.map em (s.1 : List Int))), (n1, .lst (List.map em (s.2 : List Int)))]) (v := fun (g_2 : Int) => (g_2 : Int)) (ys := fun (g_2 : Int) => s.2) (kp := 1) ?_ rfl rfl (fun _ => fz_fz) (fun _ => rfl) fun g_2 mixed2 => ?_
    · exact w_ev (rep := fe) (ev_var rfl)
    exact ws_end fun _ o => ⟨.inl rfl, (some (fe (x : Int))), rfl, o⟩
theorem sp_l_rearranged (second : List Int) (lineup : List Int) : Sp0 (n_l_rearranged second lineup) F_l_rearranged [em (second : List Int), em (lineup : List Int)] := by
  refine sp0_of rfl [some (fe (second : List Int)), some (fe (lineup : List Int)), none, none, none] rfl ?_
  unfold n_l_rearranged
  delta b_l_rearranged
  refine ws_last ?_
  refine ws_assoc ?_
  refine ws_setN (w_ap (w_cons (we (ev_var rfl) (w_nil (w_listO pk_fz))))) fun rest n_ => ?_
  refine ws_assoc ?_
  refine ws_setN (w_newL (ev_nil)) fun mixed n_2 => ?_
  refine ws_assoc ?_
  refine ws_cut (J := Option D) (E := fun (s9 : (List Int) × (List Int)) (j9 : Option D) => [some (fe (second : List Int)), some (fe (lineup : List Int)), some (.cell n_), some (.cell n_2), j9]) (Lf := fun s9 j9 => [(n_, .lst (List.map em (s9.1 : List Int))), (n_2, .lst (List.map em (s9.2 : List Int)))]) ?_ fun q_q j_ => ?_
  · refine w_forP (it := second) (ev_var rfl) (src_l (fz_fz)) ?_
    exact loop_fold (E := fun (s9 : (List Int) × (List Int)) (j9 : Option D) => [some (fe (second : List Int)), some (fe (lineup : List Int)), some (.cell n_), some (.cell n_2), j9]) (Lf := fun s9 j9 => [(n_, .lst (List.map em (s9.1 : List Int))), (n_2, .lst (List.map em (s9.2 : List Int)))]) (h := em) (fun _ _ _ _ => rfl) (lb_l_rearranged_1 lineup (some (fe (second : List Int))) n_ n_2) _ (rest, mixed) none
  exact ws_ret0 (ev_var rfl) fun _ o => qf0 (fz_c 1) o
theorem sp_l_toggled (spot : Tu Int) (worker : Int) : Sp0 (n_l_toggled spot worker) F_l_toggled [em (spot : Tu Int), em (worker : Int)] := by
  refine sp0_of rfl [some (fe (spot : Tu Int)), some (fe (worker : Int)), none] rfl ?_
  unfold n_l_toggled
  delta b_l_toggled
  refine ws_last ?_
  refine ws_assoc ?_
  refine ws_ifP (ev_tru (ev_bin (ev_var rfl) (ev_var rfl) (ev_inIT pk_fz)) (ev_truB)) (fun _ => ?_) (fun _ => ?_)
  · refine ws_ret (rep := fe (α := Tu Int)) (L' := fun (_ : Tu Int) => []) ?_ fun _ _ o => qf0 fz_fz o
    exact w_ap (w_cons (wv (w_lcL (it := fun xs => Tu.l xs) (w_ev (rep := fe) (ev_var rfl)) (fun _ => src_t fz_fz) (fun xs => lcZ_walk (fun (other : Int) => w_ev (rep := id) (ev_tru (ev_bin (ev_var rfl) (ev_var rfl) (ev_ne (α := Int) pk_fz pk_fz)) (ev_truB))) (fun (other : Int) => w_ev (rep := fe) (ev_var rfl)) _)) fun g_ => (w_nil (w_ev (rep := fe) (ev_tupleL pk_fz)))))
  · refine ws_skip ?_
    refine ws_ret (rep := fe (α := Tu Int)) (L' := fun (_ : Tu Int) => []) ?_ fun _ _ o => qf0 fz_fz o
    exact w_ap (w_cons (wv (w_ap (w_cons (wv (w_bin (we (ev_ap (ev_cons (ev_var rfl) (ev_nil)) (ev_listT pk_fz)) (we (ev_ap (ev_cons (ev_var rfl) (ev_nil)) (ev_lst [em (worker : Int)])) (w_cat pk_fz pk_fz)))) fun g_2 => (w_nil (w_ev (rep := fe) (ev_sortGL pk_fz)))))) fun g_3 => (w_nil (w_ev (rep := fe) (ev_tupleL pk_fz)))))
theorem lb_l_yard_fits_1 (hands : Crew) (plan : Scheme) (spot : Tu Int) (worker : Int) (given : List Int) (o2 : Option D) (o3 : Option D) (o4 : Option D) (o5 : Option D) (o7 : Option D) (o8 : Option D) (o11 : Option D) : ∀ (s : Unit) (j : Option D × Option D) (x : Int), Wk ([]) (n_l_yard_fits_1 hands plan spot worker given s x) (b_l_yard_fits_1 ([some (fe (hands : Crew)), some (fe (plan : Scheme)), o2, o3, o4, o5, some (fe (spot : Tu Int)), o7, o8, some (fe (worker : Int)), some (fe (given : List Int)), o11, some (fe (x : Int)), none, j.2])) (QC (fun (s : Unit) (j : Option D × Option D) => [some (fe (hands : Crew)), some (fe (plan : Scheme)), o2, o3, o4, o5, some (fe (spot : Tu Int)), o7, o8, some (fe (worker : Int)), some (fe (given : List Int)), o11, j.1, none, j.2]) (fun s j => []) QF0) XT := fun s j x => by
  unfold n_l_yard_fits_1
  delta b_l_yard_fits_1
  refine ws_last ?_
  refine ws_assoc ?_
  refine ws_set (rep := fe (α := Int)) (L' := fun (_ : Int) => []) ?_ fun found => ?_
  · exact w_call (w_cons (we (ev_var rfl) (w_cons (we (ev_var rfl) (w_cons (we (ev_var rfl) (w_cons (wv (w_call (w_cons (we (ev_var rfl) (w_cons (we (ev_var rfl) (w_nil (w_call0 (sp_l_toggled spot x) rfl (fun _ _ => trivial)))))))) fun g_ => (w_nil (w_call0 (sp_holder hands plan given g_) rfl (fun _ _ => trivial)))))))))))
  refine ws_ifG (bv := fun (g : Bool) => g) (L' := fun (g : Bool) => []) ?_ (fun b_2 => ?_) (fun b_2 => ?_)
  · exact w_not (wv (w_tru (wv (w_call (w_cons (we (ev_var rfl) (w_cons (we (ev_var rfl) (w_nil (w_call0 (sp_l_is_worker found worker) rfl (fun _ _ => trivial)))))))) fun g_2 => w_ev (rep := id) (ev_truB))) fun b_ => w_ev (rep := id) (fun _ _ => rfl))
  · exact ws_ret0 (ev_k) fun _ o => ⟨qf0 fz_fz o, _, rfl⟩
  · refine ws_skip ?_
    exact ws_end fun _ o => ⟨.inl rfl, (some (fe (x : Int)), some (fe (found : Int))), rfl, o⟩
theorem sp_l_yard_fits (hands : Crew) (plan : Scheme) (makes : List Str) (rules : List (T2 (Tu Str) (Tu (T3 (Tu Str) Str Int)))) (ranking : List Int) (second : List Int) (spot : Tu Int) : Sp0 (n_l_yard_fits hands plan makes rules ranking second spot) F_l_yard_fits [em (hands : Crew), em (plan : Scheme), em (makes : List Str), em (rules : List (T2 (Tu Str) (Tu (T3 (Tu Str) Str Int)))), em (ranking : List Int), em (second : List Int), em (spot : Tu Int)] := by
  refine sp0_of rfl [some (fe (hands : Crew)), some (fe (plan : Scheme)), some (fe (makes : List Str)), some (fe (rules : List (T2 (Tu Str) (Tu (T3 (Tu Str) Str Int))))), some (fe (ranking : List Int)), some (fe (second : List Int)), some (fe (spot : Tu Int)), none, none, none, none, none, none, none, none] rfl ?_
  unfold n_l_yard_fits
  delta b_l_yard_fits
  refine ws_last ?_
  refine ws_assoc ?_
  refine ws_set (rep := fe (α := List Int)) (L' := fun (_ : List Int) => []) ?_ fun lineup => ?_
  · exact w_lcL (it := fun xs => xs) (w_ev (rep := fe) (ev_var rfl)) (fun _ => src_l fz_fz) (fun xs => lcZ_walk (fun (at_ : Int) => w_ev (rep := id) (ev_tru (ev_bin (ev_var rfl) (ev_var rfl) (ev_inIT pk_fz)) (ev_truB))) (fun (at_ : Int) => w_ev (rep := fe) (ev_var rfl)) _)
  refine ws_assoc ?_
  refine ws_set (rep := fe (α := List (T2 Int Bool))) (L' := fun (_ : List (T2 Int Bool)) => []) ?_ fun steps => ?_
  · exact w_call (w_cons (we (ev_var rfl) (w_cons (we (ev_var rfl) (w_cons (we (ev_var rfl) (w_nil (w_call0 (sp_l_steps makes rules lineup) rfl (fun _ _ => trivial)))))))))
  refine ws_assoc ?_
  refine ws_set (rep := fe (α := Int)) (L' := fun (_ : Int) => []) ?_ fun worker => ?_
  · exact w_call (w_cons (we (ev_var rfl) (w_nil (w_call0 (sp_l_first steps) rfl (fun _ _ => trivial)))))
  refine ws_assoc ?_
  refine ws_set (w_ev (rep := fe (α := List Int)) (ev_ap (ev_cons (ev_var rfl) (ev_nil)) (ev_listL (xs := ranking) pk_fz))) fun given => ?_
  refine ws_assoc ?_
  refine ws_ifG (bv := fun (g : Bool) => g) (L' := fun (g : Bool) => []) ?_ (fun b_ => ?_) (fun b_ => ?_)
  · exact w_tru (wv (w_bin (wv (w_call (w_cons (we (ev_var rfl) (w_cons (we (ev_var rfl) (w_nil (w_call0 (sp_present given spot) rfl (fun _ _ => trivial)))))))) fun g_ => (we (ev_var rfl) (w_ev (rep := fe) (ev_ne (α := (List Int)) pk_fz pk_fz))))) fun g_2 => w_ev (rep := id) (ev_truB))
  · exact ws_ret0 (ev_k) fun _ o => qf0 fz_fz o
  · refine ws_skip ?_
    refine ws_assoc ?_
    refine ws_ifG (bv := fun (g : Bool) => g) (L' := fun (g : Bool) => []) ?_ (fun b_3 => ?_) (fun b_3 => ?_)
    · exact w_not (wv (w_tru (wv (w_call (w_cons (wv (w_call (w_cons (we (ev_var rfl) (w_cons (we (ev_var rfl) (w_cons (we (ev_var rfl) (w_cons (we (ev_var rfl) (w_nil (w_call0 (sp_walk hands plan given spot) rfl (fun _ _ => trivial)))))))))))) fun g_3 => (w_cons (we (ev_var rfl) (w_nil (w_call0 (sp_l_same_steps g_3 steps) rfl (fun _ _ => trivial)))))))) fun g_4 => w_ev (rep := id) (ev_truB))) fun b_2 => w_ev (rep := id) (fun _ _ => rfl))
    · exact ws_ret0 (ev_k) fun _ o => qf0 fz_fz o
    · refine ws_skip ?_
      refine ws_assoc ?_
      refine ws_ifG (bv := fun (g : Bool) => g) (L' := fun (g : Bool) => []) ?_ (fun b_5 => ?_) (fun b_5 => ?_)
      · exact w_not (wv (w_tru (wv (w_call (w_cons (wv (w_call (w_cons (we (ev_var rfl) (w_cons (we (ev_var rfl) (w_cons (we (ev_var rfl) (w_cons (we (ev_var rfl) (w_nil (w_call0 (sp_holder hands plan given spot) rfl (fun _ _ => trivial)))))))))))) fun g_5 => (w_cons (we (ev_var rfl) (w_nil (w_call0 (sp_l_is_worker g_5 worker) rfl (fun _ _ => trivial)))))))) fun g_6 => w_ev (rep := id) (ev_truB))) fun b_4 => w_ev (rep := id) (fun _ _ => rfl))
      · exact ws_ret0 (ev_k) fun _ o => qf0 fz_fz o
      · refine ws_skip ?_
        refine ws_assoc ?_
        refine ws_set (rep := fe (α := List Int)) (L' := fun (_ : List Int) => []) ?_ fun mixed => ?_
        · exact w_call (w_cons (we (ev_var rfl) (w_cons (we (ev_var rfl) (w_nil (w_call0 (sp_l_rearranged second lineup) rfl (fun _ _ => trivial)))))))
        refine ws_assoc ?_
        refine ws_ifG (bv := fun (g : Bool) => g) (L' := fun (g : Bool) => []) ?_ (fun b_7 => ?_) (fun b_7 => ?_)
        · exact w_not (wv (w_tru (wv (w_call (w_cons (wv (w_call (w_cons (we (ev_var rfl) (w_cons (we (ev_var rfl) (w_cons (we (ev_var rfl) (w_cons (we (ev_var rfl) (w_nil (w_call0 (sp_holder hands plan mixed spot) rfl (fun _ _ => trivial)))))))))))) fun g_7 => (w_cons (we (ev_var rfl) (w_nil (w_call0 (sp_l_is_worker g_7 worker) rfl (fun _ _ => trivial)))))))) fun g_8 => w_ev (rep := id) (ev_truB))) fun b_6 => w_ev (rep := id) (fun _ _ => rfl))
        · exact ws_ret0 (ev_k) fun _ o => qf0 fz_fz o
        · refine ws_skip ?_
          refine ws_assoc ?_
          refine ws_ifP (ev_tru (ev_bin (ev_ap (ev_cons (ev_var rfl) (ev_cons (ev_k) (ev_nil))) (ev_tup [em (worker : Int), em (true : Bool)])) (ev_var rfl) (ev_inE pk_fz)) (ev_truB)) (fun _ => ?_) (fun _ => ?_)
          · refine ws_cutL (J := Option D × Option D) (E := fun (s9 : Unit) (j9 : Option D × Option D) => [some (fe (hands : Crew)), some (fe (plan : Scheme)), some (fe (makes : List Str)), some (fe (rules : List (T2 (Tu Str) (Tu (T3 (Tu Str) Str Int))))), some (fe (ranking : List Int)), some (fe (second : List Int)), some (fe (spot : Tu Int)), some (fe (lineup : List Int)), some (fe (steps : List (T2 Int Bool))), some (fe (worker : Int)), some (fe (given : List Int)), some (fe (mixed : List Int)), j9.1, none, j9.2]) (Lf := fun s9 j9 => []) (Qr := QF0) (kr := (fun v => v)) ?_ (fun u_ j_ => ?_) (fun _ _ h _ => h)
            · refine w_for (rep := fe (α := List Int)) (L1 := fun (_ : List Int) => []) (it := fun (xs : List Int) => xs) ?_ (fun _ => src_l fz_fz) (fun xs => ?_)
              · exact w_slF (we (ev_var rfl) (w_part (wv (w_bin (wv (w_indexL (ev_var rfl) pk_fz (ev_var rfl)) fun g_9 => (we (ev_k) (w_ev (rep := fe) (ev_addI))))) fun g_10 => (we (ev_nopart) (w_ev (rep := fe) (ev_slL pk_fz))))))
              exact loop_lc (E := fun (s9 : Unit) (j9 : Option D × Option D) => [some (fe (hands : Crew)), some (fe (plan : Scheme)), some (fe (makes : List Str)), some (fe (rules : List (T2 (Tu Str) (Tu (T3 (Tu Str) Str Int))))), some (fe (ranking : List Int)), some (fe (second : List Int)), some (fe (spot : Tu Int)), some (fe (lineup : List Int)), some (fe (steps : List (T2 Int Bool))), some (fe (worker : Int)), some (fe (given : List Int)), some (fe (mixed : List Int)), j9.1, none, j9.2]) (Lf := fun s9 j9 => []) (h := em) (fun _ _ _ _ => rfl) (lb_l_yard_fits_1 hands plan spot worker given (some (fe (makes : List Str))) (some (fe (rules : List (T2 (Tu Str) (Tu (T3 (Tu Str) Str Int)))))) (some (fe (ranking : List Int))) (some (fe (second : List Int))) (some (fe (lineup : List Int))) (some (fe (steps : List (T2 Int Bool)))) (some (fe (mixed : List Int)))) _ () (none, none)
            exact ws_ret0 (ev_bin (ev_var rfl) (ev_var rfl) (ev_eq (α := (List Int)) pk_fz pk_fz)) fun _ o => qf0 fz_fz o
          · refine ws_skip ?_
            exact ws_ret0 (ev_bin (ev_var rfl) (ev_var rfl) (ev_eq (α := (List Int)) pk_fz pk_fz)) fun _ o => qf0 fz_fz o
theorem sp_holders (crew : Crew) (scheme : Scheme) (ranking : List Int) (yards : List (Tu Int)) : Sp0 (n_holders crew scheme ranking yards) F_holders [em (crew : Crew), em (scheme : Scheme), em (ranking : List Int), em (yards : List (Tu Int))] := by
  refine sp0_of rfl [some (fe (crew : Crew)), some (fe (scheme : Scheme)), some (fe (ranking : List Int)), some (fe (yards : List (Tu Int))), none] rfl ?_
  unfold n_holders
  delta b_holders
  refine ws_last ?_
  refine ws_assoc ?_
  refine ws_ex (rep := fe (α := Unit)) (L' := fun (_ : Unit) => []) ?_ fun u_ => ?_
  · exact w_call (w_cons (we (ev_var rfl) (w_cons (we (ev_var rfl) (w_nil (w_call0 (sp_check_ranking crew ranking) rfl (fun _ _ => trivial)))))))
  refine ws_assoc ?_
  refine ws_ex (rep := fe (α := Unit)) (L' := fun (_ : Unit) => []) ?_ fun u_2 => ?_
  · exact w_call (w_cons (we (ev_var rfl) (w_cons (we (ev_var rfl) (w_nil (w_call0 (sp_check_yards crew yards) rfl (fun _ _ => trivial)))))))
  refine ws_ret (rep := fe (α := List Int)) (L' := fun (_ : List Int) => []) ?_ fun _ _ o => qf0 fz_fz o
  exact w_lcL (it := fun xs => xs) (w_ev (rep := fe) (ev_var rfl)) (fun _ => src_l fz_fz) (fun xs => lcZ_walk (fun _ => yes_ok) (fun (yard : Tu Int) => w_call (w_cons (wv (w_call (w_cons (we (ev_var rfl) (w_cons (we (ev_var rfl) (w_cons (wv (w_call (w_cons (we (ev_var rfl) (w_cons (we (ev_var rfl) (w_nil (w_call0 (sp_present ranking yard) rfl (fun _ _ => trivial)))))))) fun g_ => (w_nil (w_call0 (sp_walked crew scheme g_) rfl (fun _ _ => trivial)))))))))) fun g_2 => (w_nil (w_call0 (sp_first_taken g_2) rfl (fun _ _ => trivial)))))) _)
theorem sp_l_bad_ranking (stream : List Int) (ranking : List Int) : Sp1 (fun s : List Int => Ct.lst (List.map em s)) (n_l_bad_ranking stream ranking) F_l_bad_ranking [] [em (ranking : List Int)] (.lst (List.map em stream)) := by
  refine sp1_of (fun _ => rfl) rfl [some (.cell 0), some (fe (ranking : List Int)), none, none, none] rfl ?_
  unfold n_l_bad_ranking
  delta b_l_bad_ranking
  refine ws_last ?_
  refine ws_assoc ?_
  refine ws_set (w_ev (rep := fe (α := Int)) (ev_ap (ev_cons (ev_var rfl) (ev_nil)) (ev_len pk_fz))) fun size => ?_
  refine ws_assoc ?_
  refine ws_set (rep := fun (g : Int × List Int) => fe g.1) (L' := fun (g : Int × List Int) => [(0, .lst (List.map em (g.2 : List Int)))]) ?_ fun place => ?_
  · exact w_call (w_cons (we (ev_var rfl) (w_cons (we (ev_var rfl) (w_nil (w_call1 0 (sp_l_draw stream size) rfl rfl rfl (fun _ => rfl)))))))
  refine ws_assoc ?_
  refine ws_set (rep := fun (g : Int × List Int) => fe g.1) (L' := fun (g : Int × List Int) => [(0, .lst (List.map em (g.2 : List Int)))]) ?_ fun pick => ?_
  · exact w_call (w_cons (we (ev_var rfl) (w_cons (we (ev_k) (w_nil (w_call1 0 (sp_l_draw place.2 (5 : Int)) rfl rfl rfl (fun _ => rfl)))))))
  refine ws_assoc ?_
  refine ws_ifP (ev_tru (ev_bin (ev_var rfl) (ev_k) (ev_eq (α := Int) pk_fz pk_fz)) (ev_truB)) (fun _ => ?_) (fun _ => ?_)
  · refine ws_retK (kr := fun (g : List Int) => (g, pick.2)) (rep := fun (g : List Int) => fe g) (L' := fun (g : List Int) => [(0, .lst (List.map em (pick.2 : List Int)))]) ?_ fun _ _ o => qf1 0 rfl o
    exact w_bin (we (ev_slF (ev_var rfl) (ev_nopart) (ev_part (ev_var rfl)) (ev_slL pk_fz)) (we (ev_slF (ev_var rfl) (ev_part (ev_bin (ev_var rfl) (ev_k) (ev_addI))) (ev_nopart) (ev_slL pk_fz)) (w_cat pk_fz pk_fz)))
  · refine ws_skip ?_
    refine ws_assoc ?_
    refine ws_ifP (ev_tru (ev_bin (ev_var rfl) (ev_k) (ev_eq (α := Int) pk_fz pk_fz)) (ev_truB)) (fun _ => ?_) (fun _ => ?_)
    · refine ws_retK (kr := fun (g : List Int) => (g, pick.2)) (rep := fun (g : List Int) => fe g) (L' := fun (g : List Int) => [(0, .lst (List.map em (pick.2 : List Int)))]) ?_ fun _ _ o => qf1 0 rfl o
      exact w_bin (we (ev_var rfl) (wv (w_ap (w_cons (wv (w_bin (we (ev_var rfl) (we (ev_var rfl) (w_idx pk_fz)))) fun g_ => (w_nil (w_ev (rep := fe) (ev_lst [em (g_ : Int)])))))) fun g_2 => (w_cat pk_fz pk_fz)))
    · refine ws_skip ?_
      refine ws_assoc ?_
      refine ws_ifP (ev_tru (ev_bin (ev_var rfl) (ev_k) (ev_eq (α := Int) pk_fz pk_fz)) (ev_truB)) (fun _ => ?_) (fun _ => ?_)
      · refine ws_retK (kr := fun (g : List Int) => (g, pick.2)) (rep := fun (g : List Int) => fe g) (L' := fun (g : List Int) => [(0, .lst (List.map em (pick.2 : List Int)))]) ?_ fun _ _ o => qf1 0 rfl o
        exact w_bin (wv (w_bin (we (ev_slF (ev_var rfl) (ev_nopart) (ev_part (ev_var rfl)) (ev_slL pk_fz)) (we (ev_ap (ev_cons (ev_var rfl) (ev_nil)) (ev_lst [em (size : Int)])) (w_cat pk_fz pk_fz)))) fun g_3 => (we (ev_slF (ev_var rfl) (ev_part (ev_bin (ev_var rfl) (ev_k) (ev_addI))) (ev_nopart) (ev_slL pk_fz)) (w_cat pk_fz pk_fz)))
      · refine ws_skip ?_
        refine ws_assoc ?_
        refine ws_ifP (ev_tru (ev_bin (ev_var rfl) (ev_k) (ev_eq (α := Int) pk_fz pk_fz)) (ev_truB)) (fun _ => ?_) (fun _ => ?_)
        · refine ws_retK (kr := fun (g : List Int) => (g, pick.2)) (rep := fun (g : List Int) => fe g) (L' := fun (g : List Int) => [(0, .lst (List.map em (pick.2 : List Int)))]) ?_ fun _ _ o => qf1 0 rfl o
          exact w_bin (wv (w_bin (we (ev_slF (ev_var rfl) (ev_nopart) (ev_part (ev_var rfl)) (ev_slL pk_fz)) (we (ev_ap (ev_cons (ev_un (ev_k) (ev_negI)) (ev_nil)) (ev_lst [em ((-(1 : Int)) : Int)])) (w_cat pk_fz pk_fz)))) fun g_4 => (we (ev_slF (ev_var rfl) (ev_part (ev_bin (ev_var rfl) (ev_k) (ev_addI))) (ev_nopart) (ev_slL pk_fz)) (w_cat pk_fz pk_fz)))
        · refine ws_skip ?_
          refine ws_retK (kr := fun (g : List Int) => (g, pick.2)) (rep := fun (g : List Int) => fe g) (L' := fun (g : List Int) => [(0, .lst (List.map em (pick.2 : List Int)))]) ?_ fun _ _ o => qf1 0 rfl o
          exact w_bin (we (ev_var rfl) (we (ev_ap (ev_cons (ev_var rfl) (ev_nil)) (ev_lst [em (size : Int)])) (w_cat pk_fz pk_fz)))
theorem sp_l_bad_spot (stream : List Int) (size : Int) : Sp1 (fun s : List Int => Ct.lst (List.map em s)) (n_l_bad_spot stream size) F_l_bad_spot [] [em (size : Int)] (.lst (List.map em stream)) := by
  refine sp1_of (fun _ => rfl) rfl [some (.cell 0), some (fe (size : Int)), none, none] rfl ?_
  unfold n_l_bad_spot
  delta b_l_bad_spot
  refine ws_last ?_
  refine ws_assoc ?_
  refine ws_set (rep := fun (g : Int × List Int) => fe g.1) (L' := fun (g : Int × List Int) => [(0, .lst (List.map em (g.2 : List Int)))]) ?_ fun worker => ?_
  · exact w_call (w_cons (we (ev_var rfl) (w_cons (we (ev_var rfl) (w_nil (w_call1 0 (sp_l_draw stream size) rfl rfl rfl (fun _ => rfl)))))))
  refine ws_assoc ?_
  refine ws_set (w_ev (rep := fe (α := Int)) (ev_bin (ev_var rfl) (ev_k) (ev_addI))) fun one => ?_
  refine ws_retK (kr := fun (g : (Tu Int) × List Int) => (g.1, g.2)) (rep := fun (g : (Tu Int) × List Int) => fe g.1) (L' := fun (g : (Tu Int) × List Int) => [(0, .lst (List.map em (g.2 : List Int)))]) ?_ fun _ _ o => qf1 0 rfl o
  exact w_bin (we (ev_ap (ev_cons (ev_ap (ev_nil) (ev_tup [])) (ev_cons (ev_ap (ev_cons (ev_var rfl) (ev_cons (ev_var rfl) (ev_nil))) (ev_tup [em (worker.1 : Int), em (worker.1 : Int)])) (ev_cons (ev_ap (ev_cons (ev_var rfl) (ev_cons (ev_var rfl) (ev_nil))) (ev_tup [em (worker.1 : Int), em (size : Int)])) (ev_cons (ev_ap (ev_cons (ev_un (ev_k) (ev_negI)) (ev_cons (ev_var rfl) (ev_nil))) (ev_tup [em ((-(1 : Int)) : Int), em (worker.1 : Int)])) (ev_cons (ev_ap (ev_cons (ev_var rfl) (ev_nil)) (ev_tup [em (size : Int)])) (ev_cons (ev_ap (ev_cons (ev_un (ev_k) (ev_negI)) (ev_nil)) (ev_tup [em ((-(1 : Int)) : Int)])) (ev_cons (ev_ap (ev_cons (ev_var rfl) (ev_cons (ev_var rfl) (ev_nil))) (ev_tup [em (one : Int), em (worker.1 : Int)])) (ev_cons (ev_ap (ev_cons (ev_var rfl) (ev_cons (ev_var rfl) (ev_cons (ev_var rfl) (ev_nil)))) (ev_tup [em (worker.1 : Int), em (one : Int), em (one : Int)])) (ev_nil))))))))) (ev_lst [em ((⟨[]⟩ : Tu Int) : Tu Int), em ((⟨[worker.1, worker.1]⟩ : Tu Int) : Tu Int), em ((⟨[worker.1, size]⟩ : Tu Int) : Tu Int), em ((⟨[(-(1 : Int)), worker.1]⟩ : Tu Int) : Tu Int), em ((⟨[size]⟩ : Tu Int) : Tu Int), em ((⟨[(-(1 : Int))]⟩ : Tu Int) : Tu Int), em ((⟨[one, worker.1]⟩ : Tu Int) : Tu Int), em ((⟨[worker.1, one, one]⟩ : Tu Int) : Tu Int)])) (wv (w_call (w_cons (we (ev_var rfl) (w_cons (we (ev_k) (w_nil (w_call1 0 (sp_l_draw worker.2 (8 : Int)) rfl rfl rfl (fun _ => rfl)))))))) fun g_ => (w_withS (L' := fun (z9 : List Int) => [(0, .lst (List.map em (z9 : List Int)))]) (w_idx pk_fz) (fun _ o => o))))
theorem sp_l_refusal (hands : Crew) (plan : Scheme) (ranking : List Int) (spots : List (Tu Int)) (which : Int) : Sp0 (n_l_refusal hands plan ranking spots which) F_l_refusal [em (hands : Crew), em (plan : Scheme), em (ranking : List Int), em (spots : List (Tu Int)), em (which : Int)] := by
  refine sp0_of rfl [some (fe (hands : Crew)), some (fe (plan : Scheme)), some (fe (ranking : List Int)), some (fe (spots : List (Tu Int))), some (fe (which : Int)), none] rfl ?_
  unfold n_l_refusal
  delta b_l_refusal
  refine ws_last ?_
  refine ws_assoc ?_
  refine ws_set (w_ev (rep := fe (α := Str)) (ev_k)) fun told => ?_
  refine ws_assoc ?_
  refine ws_cut (J := Unit) (E := fun (s9 : Str) (j9 : Unit) => [some (fe (hands : Crew)), some (fe (plan : Scheme)), some (fe (ranking : List Int)), some (fe (spots : List (Tu Int))), some (fe (which : Int)), some (fe (s9 : Str))]) (Lf := fun s9 j9 => []) ?_ fun told2 j_ => ?_
  · refine w_tryM (E := fun (j : Unit) => [some (fe (hands : Crew)), some (fe (plan : Scheme)), some (fe (ranking : List Int)), some (fe (spots : List (Tu Int))), some (fe (which : Int)), some (fe (told : Str))]) (Lx := fun _ => []) ?_ fun j c fs => ?_
    · delta b_l_refusal_4
      refine ws_last ?_
      refine ws_ifP (ev_tru (ev_bin (ev_var rfl) (ev_k) (ev_eq (α := Int) pk_fz pk_fz)) (ev_truB)) (fun _ => ?_) (fun _ => ?_)
      · refine ws_ex (rep := fe (α := List (T2 Int Bool))) (L' := fun (_ : List (T2 Int Bool)) => []) ?_ fun u_ => ?_
        · exact w_call (w_cons (we (ev_var rfl) (w_cons (we (ev_var rfl) (w_cons (we (ev_var rfl) (w_cons (wv (w_bin (we (ev_var rfl) (we (ev_un (ev_k) (ev_negI)) (w_idx pk_fz)))) fun g_ => (w_nil (w_call0 (sp_walk hands plan ranking g_) rfl (fun _ o => ⟨(), rfl, o⟩)))))))))))
        exact ws_end fun _ o => ⟨rfl, (), rfl, o⟩
      · refine ws_ifP (ev_tru (ev_bin (ev_var rfl) (ev_k) (ev_eq (α := Int) pk_fz pk_fz)) (ev_truB)) (fun _ => ?_) (fun _ => ?_)
        · refine ws_ex (rep := fe (α := Int)) (L' := fun (_ : Int) => []) ?_ fun u_2 => ?_
          · exact w_call (w_cons (we (ev_var rfl) (w_cons (we (ev_var rfl) (w_cons (we (ev_var rfl) (w_cons (wv (w_bin (we (ev_var rfl) (we (ev_un (ev_k) (ev_negI)) (w_idx pk_fz)))) fun g_2 => (w_nil (w_call0 (sp_holder hands plan ranking g_2) rfl (fun _ o => ⟨(), rfl, o⟩)))))))))))
          exact ws_end fun _ o => ⟨rfl, (), rfl, o⟩
        · refine ws_ex (rep := fe (α := List Int)) (L' := fun (_ : List Int) => []) ?_ fun u_3 => ?_
          · exact w_call (w_cons (we (ev_var rfl) (w_cons (we (ev_var rfl) (w_cons (we (ev_var rfl) (w_cons (we (ev_var rfl) (w_nil (w_call0 (sp_holders hands plan ranking spots) rfl (fun _ o => ⟨(), rfl, o⟩)))))))))))
          exact ws_end fun _ o => ⟨rfl, (), rfl, o⟩
    · refine wh_one ?_ ?_
      · delta x_l_refusal_1
        refine ws_last ?_
        refine ws_set (w_ev (rep := fe (α := Str)) (ev_k)) fun told3 => ?_
        exact ws_end fun _ o => ⟨rfl, (), rfl, o⟩
      refine wh_one ?_ ?_
      · delta x_l_refusal_2
        refine ws_last ?_
        refine ws_set (w_ev (rep := fe (α := Str)) (ev_k)) fun told4 => ?_
        exact ws_end fun _ o => ⟨rfl, (), rfl, o⟩
      refine wh_one ?_ ?_
      · delta x_l_refusal_3
        refine ws_last ?_
        refine ws_set (w_ev (rep := fe (α := Str)) (ev_k)) fun told5 => ?_
        exact ws_end fun _ o => ⟨rfl, (), rfl, o⟩
      exact wh_nil (fun _ _ => trivial)
  exact ws_ret0 (ev_var rfl) fun _ o => qf0 fz_fz o
theorem lb_l_refuses_1 (hands : Crew) (plan : Scheme) (ranking : List Int) (spots : List (Tu Int)) (bad : List Int) (q1 : List (Tu Int)) (q2 : List (Tu Int)) (q0 : List Int) (o8 : Option D) (n0 : Nat) (n1 : Nat) : ∀ (s : Unit) (j : Option D × Option D) (x : Int), Wk ([(0, .lst (List.map em (q0 : List Int))), (n0, .lst (List.map em (q1 : List (Tu Int)))), (n1, .lst (List.map em (q2 : List (Tu Int))))]) (n_l_refuses_1 hands plan ranking spots bad q1 q2 q0 s x) (b_l_refuses_1 ([some (.cell 0), some (fe (hands : Crew)), some (fe (plan : Scheme)), some (fe (ranking : List Int)), some (fe (spots : List (Tu Int))), some (fe (bad : List Int)), some (.cell n0), some (.cell n1), o8, some (fe (x : Int)), j.2])) (QC (fun (s : Unit) (j : Option D × Option D) => [some (.cell 0), some (fe (hands : Crew)), some (fe (plan : Scheme)), some (fe (ranking : List Int)), some (fe (spots : List (Tu Int))), some (fe (bad : List Int)), some (.cell n0), some (.cell n1), o8, j.1, j.2]) (fun s j => [(0, .lst (List.map em (q0 : List Int))), (n0, .lst (List.map em (q1 : List (Tu Int)))), (n1, .lst (List.map em (q2 : List (Tu Int))))]) (QF1 (fun s : List Int => Ct.lst (List.map em s)))) X0 := fun s j x => by
  unfold n_l_refuses_1
  delta b_l_refuses_1
  refine ws_last ?_
  refine ws_assoc ?_
  refine ws_set (mv := Rs.ok ()) (rep := fun _ => .cell n0) (L' := fun _ => [(0, .lst (List.map em (q0 : List Int))), (n0, .lst (List.map em (q1 : List (Tu Int)))), (n1, .lst (List.map em (q2 : List (Tu Int))))]) (w_ev (ev_var rfl)) fun _ => ?_
  refine ws_assoc ?_
  refine ws_ifP (ev_tru (ev_bin (ev_var rfl) (ev_k) (ev_eq (α := Int) pk_fz pk_fz)) (ev_truB)) (fun _ => ?_) (fun _ => ?_)
  · refine ws_set (mv := Rs.ok ()) (rep := fun _ => .cell n1) (L' := fun _ => [(0, .lst (List.map em (q0 : List Int))), (n0, .lst (List.map em (q1 : List (Tu Int)))), (n1, .lst (List.map em (q2 : List (Tu Int))))]) (w_ev (ev_var rfl)) fun _ => ?_
    refine ws_assoc ?_
    refine ws_ifG (bv := fun (g : Bool) => g) (L' := fun (g : Bool) => [(0, .lst (List.map em (q0 : List Int))), (n0, .lst (List.map em (q1 : List (Tu Int)))), (n1, .lst (List.map em (q2 : List (Tu Int))))]) ?_ (fun b_ => ?_) (fun b_ => ?_)
    · exact w_tru (wv (w_bin (wv (w_call (w_cons (we (ev_var rfl) (w_cons (we (ev_var rfl) (w_cons (we (ev_ap (ev_cons (ev_var rfl) (ev_nil)) (ev_listL (xs := bad) pk_fz)) (w_cons (we (ev_ap (ev_cons (ev_var rfl) (ev_nil)) (ev_listL (xs := spots) pk_fz)) (w_cons (we (ev_var rfl) (w_nil (w_calm (w_call0 (sp_l_refusal hands plan bad spots x) rfl (fun _ _ => trivial))))))))))))))) fun g_ => (we (ev_k) (w_neM pk_fz pk_fz)))) fun g_2 => w_ev (rep := id) (ev_truB))
    · exact ws_ret0 (ev_k) fun _ o => ⟨qf1 0 rfl o, _, rfl⟩
    · refine ws_skip ?_
      refine ws_assoc ?_
      refine ws_ifG (bv := fun (g : Bool) => g) (L' := fun (g : Bool) => [(0, .lst (List.map em (q0 : List Int))), (n0, .lst (List.map em (q1 : List (Tu Int)))), (n1, .lst (List.map em (q2 : List (Tu Int))))]) ?_ (fun b_2 => ?_) (fun b_2 => ?_)
      · exact w_tru (wv (w_bin (wv (w_call (w_cons (we (ev_var rfl) (w_cons (we (ev_var rfl) (w_cons (we (ev_ap (ev_cons (ev_var rfl) (ev_nil)) (ev_listL (xs := bad) pk_fz)) (w_cons (we (ev_ap (ev_cons (ev_var rfl) (ev_nil)) (ev_listL (xs := q2) (pk_lst 2))) (w_cons (we (ev_var rfl) (w_nil (w_calm (w_call0 (sp_l_refusal hands plan bad q2 x) rfl (fun _ _ => trivial))))))))))))))) fun g_3 => (we (ev_k) (w_neM pk_fz pk_fz)))) fun g_4 => w_ev (rep := id) (ev_truB))
      · exact ws_ret0 (ev_k) fun _ o => ⟨qf1 0 rfl o, _, rfl⟩
      · refine ws_skip ?_
        refine ws_assoc ?_
        refine ws_ifG (bv := fun (g : Bool) => g) (L' := fun (g : Bool) => [(0, .lst (List.map em (q0 : List Int))), (n0, .lst (List.map em (q1 : List (Tu Int)))), (n1, .lst (List.map em (q2 : List (Tu Int))))]) ?_ (fun b_3 => ?_) (fun b_3 => ?_)
        · exact w_tru (wv (w_bin (wv (w_call (w_cons (we (ev_var rfl) (w_cons (we (ev_var rfl) (w_cons (we (ev_ap (ev_cons (ev_var rfl) (ev_nil)) (ev_listL (xs := ranking) pk_fz)) (w_cons (we (ev_ap (ev_cons (ev_var rfl) (ev_nil)) (ev_listL (xs := q2) (pk_lst 2))) (w_cons (we (ev_var rfl) (w_nil (w_calm (w_call0 (sp_l_refusal hands plan ranking q2 x) rfl (fun _ _ => trivial))))))))))))))) fun g_5 => (we (ev_k) (w_neM pk_fz pk_fz)))) fun g_6 => w_ev (rep := id) (ev_truB))
        · exact ws_ret0 (ev_k) fun _ o => ⟨qf1 0 rfl o, _, rfl⟩
        · refine ws_skip ?_
          refine ws_ifG (bv := fun (g : Bool) => g) (L' := fun (g : Bool) => [(0, .lst (List.map em (q0 : List Int))), (n0, .lst (List.map em (q1 : List (Tu Int)))), (n1, .lst (List.map em (q2 : List (Tu Int))))]) ?_ (fun b_4 => ?_) (fun b_4 => ?_)
          · exact w_tru (wv (w_bin (wv (w_call (w_cons (we (ev_var rfl) (w_cons (we (ev_var rfl) (w_cons (we (ev_ap (ev_cons (ev_var rfl) (ev_nil)) (ev_listL (xs := ranking) pk_fz)) (w_cons (we (ev_ap (ev_cons (ev_var rfl) (ev_nil)) (ev_listL (xs := spots) pk_fz)) (w_cons (we (ev_var rfl) (w_nil (w_calm (w_call0 (sp_l_refusal hands plan ranking spots x) rfl (fun _ _ => trivial))))))))))))))) fun g_7 => (we (ev_k) (w_neM pk_fz pk_fz)))) fun g_8 => w_ev (rep := id) (ev_truB))
          · exact ws_ret0 (ev_k) fun _ o => ⟨qf1 0 rfl o, _, rfl⟩
          · refine ws_skip ?_
            exact ws_end fun _ o => ⟨.inl rfl, (some (fe (x : Int)), some (.cell n1)), rfl, o⟩
  · refine ws_skip ?_
    refine ws_assoc ?_
    refine ws_ifG (bv := fun (g : Bool) => g) (L' := fun (g : Bool) => [(0, .lst (List.map em (q0 : List Int))), (n0, .lst (List.map em (q1 : List (Tu Int)))), (n1, .lst (List.map em (q2 : List (Tu Int))))]) ?_ (fun b_5 => ?_) (fun b_5 => ?_)
    · exact w_tru (wv (w_bin (wv (w_call (w_cons (we (ev_var rfl) (w_cons (we (ev_var rfl) (w_cons (we (ev_ap (ev_cons (ev_var rfl) (ev_nil)) (ev_listL (xs := bad) pk_fz)) (w_cons (we (ev_ap (ev_cons (ev_var rfl) (ev_nil)) (ev_listL (xs := spots) pk_fz)) (w_cons (we (ev_var rfl) (w_nil (w_calm (w_call0 (sp_l_refusal hands plan bad spots x) rfl (fun _ _ => trivial))))))))))))))) fun g_9 => (we (ev_k) (w_neM pk_fz pk_fz)))) fun g_10 => w_ev (rep := id) (ev_truB))
    · exact ws_ret0 (ev_k) fun _ o => ⟨qf1 0 rfl o, _, rfl⟩
    · refine ws_skip ?_
      refine ws_assoc ?_
      refine ws_ifG (bv := fun (g : Bool) => g) (L' := fun (g : Bool) => [(0, .lst (List.map em (q0 : List Int))), (n0, .lst (List.map em (q1 : List (Tu Int)))), (n1, .lst (List.map em (q2 : List (Tu Int))))]) ?_ (fun b_6 => ?_) (fun b_6 => ?_)
      · exact w_tru (wv (w_bin (wv (w_call (w_cons (we (ev_var rfl) (w_cons (we (ev_var rfl) (w_cons (we (ev_ap (ev_cons (ev_var rfl) (ev_nil)) (ev_listL (xs := bad) pk_fz)) (w_cons (we (ev_ap (ev_cons (ev_var rfl) (ev_nil)) (ev_listL (xs := q1) (pk_lst 1))) (w_cons (we (ev_var rfl) (w_nil (w_calm (w_call0 (sp_l_refusal hands plan bad q1 x) rfl (fun _ _ => trivial))))))))))))))) fun g_11 => (we (ev_k) (w_neM pk_fz pk_fz)))) fun g_12 => w_ev (rep := id) (ev_truB))
      · exact ws_ret0 (ev_k) fun _ o => ⟨qf1 0 rfl o, _, rfl⟩
      · refine ws_skip ?_
        refine ws_assoc ?_
        refine ws_ifG (bv := fun (g : Bool) => g) (L' := fun (g : Bool) => [(0, .lst (List.map em (q0 : List Int))), (n0, .lst (List.map em (q1 : List (Tu Int)))), (n1, .lst (List.map em (q2 : List (Tu Int))))]) ?_ (fun b_7 => ?_) (fun b_7 => ?_)
        · exact w_tru (wv (w_bin (wv (w_call (w_cons (we (ev_var rfl) (w_cons (we (ev_var rfl) (w_cons (we (ev_ap (ev_cons (ev_var rfl) (ev_nil)) (ev_listL (xs := ranking) pk_fz)) (w_cons (we (ev_ap (ev_cons (ev_var rfl) (ev_nil)) (ev_listL (xs := q1) (pk_lst 1))) (w_cons (we (ev_var rfl) (w_nil (w_calm (w_call0 (sp_l_refusal hands plan ranking q1 x) rfl (fun _ _ => trivial))))))))))))))) fun g_13 => (we (ev_k) (w_neM pk_fz pk_fz)))) fun g_14 => w_ev (rep := id) (ev_truB))
        · exact ws_ret0 (ev_k) fun _ o => ⟨qf1 0 rfl o, _, rfl⟩
        · refine ws_skip ?_
          refine ws_ifG (bv := fun (g : Bool) => g) (L' := fun (g : Bool) => [(0, .lst (List.map em (q0 : List Int))), (n0, .lst (List.map em (q1 : List (Tu Int)))), (n1, .lst (List.map em (q2 : List (Tu Int))))]) ?_ (fun b_8 => ?_) (fun b_8 => ?_)
          · exact w_tru (wv (w_bin (wv (w_call (w_cons (we (ev_var rfl) (w_cons (we (ev_var rfl) (w_cons (we (ev_ap (ev_cons (ev_var rfl) (ev_nil)) (ev_listL (xs := ranking) pk_fz)) (w_cons (we (ev_ap (ev_cons (ev_var rfl) (ev_nil)) (ev_listL (xs := spots) pk_fz)) (w_cons (we (ev_var rfl) (w_nil (w_calm (w_call0 (sp_l_refusal hands plan ranking spots x) rfl (fun _ _ => trivial))))))))))))))) fun g_15 => (we (ev_k) (w_neM pk_fz pk_fz)))) fun g_16 => w_ev (rep := id) (ev_truB))
          · exact ws_ret0 (ev_k) fun _ o => ⟨qf1 0 rfl o, _, rfl⟩
          · refine ws_skip ?_
            exact ws_end fun _ o => ⟨.inl rfl, (some (fe (x : Int)), some (.cell n0)), rfl, o⟩
theorem sp_l_refuses (stream : List Int) (hands : Crew) (plan : Scheme) (ranking : List Int) (spots : List (Tu Int)) : Sp1 (fun s : List Int => Ct.lst (List.map em s)) (n_l_refuses stream hands plan ranking spots) F_l_refuses [] [em (hands : Crew), em (plan : Scheme), em (ranking : List Int), em (spots : List (Tu Int))] (.lst (List.map em stream)) := by
  refine sp1_of (fun _ => rfl) rfl [some (.cell 0), some (fe (hands : Crew)), some (fe (plan : Scheme)), some (fe (ranking : List Int)), some (fe (spots : List (Tu Int))), none, none, none, none, none, none] rfl ?_
  unfold n_l_refuses
  delta b_l_refuses
  refine ws_last ?_
  refine ws_assoc ?_
  refine ws_set (rep := fun (g : (List Int) × List Int) => fe g.1) (L' := fun (g : (List Int) × List Int) => [(0, .lst (List.map em (g.2 : List Int)))]) ?_ fun bad => ?_
  · exact w_call (w_cons (we (ev_var rfl) (w_cons (we (ev_var rfl) (w_nil (w_call1 0 (sp_l_bad_ranking stream ranking) rfl rfl rfl (fun _ => rfl)))))))
  refine ws_assoc ?_
  refine ws_setN (w_ap (w_cons (we (ev_var rfl) (w_nil (w_listO pk_fz))))) fun wrong n_ => ?_
  refine ws_assoc ?_
  refine ws_lput (rep := fun (g : (Tu Int) × List Int) => fe g.1) (L' := fun (g : (Tu Int) × List Int) => [(0, .lst (List.map em (g.2 : List Int))), (n_, .lst (List.map em (wrong : List (Tu Int))))]) (v := fun (g : (Tu Int) × List Int) => g.1) (ys := fun _ => wrong) (k := (-(1 : Int))) ?_ rfl (fun _ => ev_un (ev_k) (ev_negI)) (fun _ => fz_fz) (fun g_ => ⟨1, rfl, fun wrong2 => ?_⟩)
  · exact w_call (w_cons (we (ev_var rfl) (w_cons (we (ev_ap (ev_cons (ev_var rfl) (ev_nil)) (ev_len pk_fz)) (w_nil (w_call1 0 (sp_l_bad_spot bad.2 (lenI ranking)) rfl rfl rfl (fun _ => rfl)))))))
  refine ws_assoc ?_
  refine ws_setN (w_ap (w_cons (we (ev_var rfl) (w_nil (w_listO (pk_lst 1)))))) fun many n_2 => ?_
  refine ws_assoc ?_
  refine ws_set (rep := fun (g : (Tu Int) × List (Tu Int)) => fe g.1) (L' := fun (g : (Tu Int) × List (Tu Int)) => [(0, .lst (List.map em (g_.2 : List Int))), (n_, .lst (List.map em (wrong2 : List (Tu Int)))), (n_2, .lst (List.map em (g.2 : List (Tu Int))))]) ?_ fun last => ?_
  · exact w_popE (kp := 2) (L' := fun (g : (Tu Int) × List (Tu Int)) => [(0, .lst (List.map em (g_.2 : List Int))), (n_, .lst (List.map em (wrong2 : List (Tu Int)))), (n_2, .lst (List.map em (g.2 : List (Tu Int))))]) rfl rfl (fun _ => rfl)
  refine ws_assoc ?_
  refine ws_insert (kp := 2) (L' := fun (g : Int × List Int) => [(0, .lst (List.map em (g.2 : List Int))), (n_, .lst (List.map em (wrong2 : List (Tu Int)))), (n_2, .lst (List.map em (last.2 : List (Tu Int))))]) (ix := fun (g_2 : Int × List Int) => g_2.1) (v := fun (g_2 : Int × List Int) => last.1) (ys := fun (g_2 : Int × List Int) => last.2) ?_ rfl rfl (fun _ => ev_var rfl) (fun _ => rfl) fun g_2 many2 => ?_
  · exact w_call (w_cons (we (ev_var rfl) (w_cons (we (ev_bin (ev_ap (ev_cons (ev_var rfl) (ev_nil)) (ev_len (pk_lst 2))) (ev_k) (ev_addI)) (w_nil (w_call1 0 (sp_l_draw g_.2 ((lenI last.2) + (1 : Int))) rfl rfl rfl (fun _ => rfl)))))))
  refine ws_assoc ?_
  refine ws_cutL (J := Option D × Option D) (E := fun (s9 : Unit) (j9 : Option D × Option D) => [some (.cell 0), some (fe (hands : Crew)), some (fe (plan : Scheme)), some (fe (ranking : List Int)), some (fe (spots : List (Tu Int))), some (fe (bad.1 : List Int)), some (.cell n_), some (.cell n_2), some (fe (last.1 : Tu Int)), j9.1, j9.2]) (Lf := fun s9 j9 => [(0, .lst (List.map em (g_2.2 : List Int))), (n_, .lst (List.map em (wrong2 : List (Tu Int)))), (n_2, .lst (List.map em (many2 : List (Tu Int))))]) (Qr := (QF1 (fun s : List Int => Ct.lst (List.map em s)))) (kr := (fun v => v)) ?_ (fun u_ j_ => ?_) (fun _ _ h _ => h)
  · refine w_forR1P (j := (3 : Int)) (ev_k) (fun xs => ?_)
    exact loop_lc (E := fun (s9 : Unit) (j9 : Option D × Option D) => [some (.cell 0), some (fe (hands : Crew)), some (fe (plan : Scheme)), some (fe (ranking : List Int)), some (fe (spots : List (Tu Int))), some (fe (bad.1 : List Int)), some (.cell n_), some (.cell n_2), some (fe (last.1 : Tu Int)), j9.1, j9.2]) (Lf := fun s9 j9 => [(0, .lst (List.map em (g_2.2 : List Int))), (n_, .lst (List.map em (wrong2 : List (Tu Int)))), (n_2, .lst (List.map em (many2 : List (Tu Int))))]) (h := em) (fun _ _ _ _ => rfl) (lb_l_refuses_1 hands plan ranking spots bad.1 wrong2 many2 g_2.2 (some (fe (last.1 : Tu Int))) n_ n_2) _ () (none, none)
  exact ws_ret0 (ev_k) fun _ o => qf1 0 rfl o
theorem sp_l_takes_alike (stream : List Int) (plan : Scheme) (rules : List (T2 (Tu Str) (Tu (T3 (Tu Str) Str Int)))) : Sp1 (fun s : List Int => Ct.lst (List.map em s)) (n_l_takes_alike stream plan rules) F_l_takes_alike [] [em (plan : Scheme), em (rules : List (T2 (Tu Str) (Tu (T3 (Tu Str) Str Int))))] (.lst (List.map em stream)) := by
  refine sp1_of (fun _ => rfl) rfl [some (.cell 0), some (fe (plan : Scheme)), some (fe (rules : List (T2 (Tu Str) (Tu (T3 (Tu Str) Str Int))))), none, none, none, none, none, none] rfl ?_
  unfold n_l_takes_alike
  delta b_l_takes_alike
  refine ws_last ?_
  refine ws_assoc ?_
  refine ws_set (w_ev (rep := fe (α := List Str)) (ev_ap (ev_cons (ev_k) (ev_cons (ev_k) (ev_cons (ev_k) (ev_cons (ev_k) (ev_nil))))) (ev_lst [em (("a" : Str) : Str), em (("b" : Str) : Str), em (("any" : Str) : Str), em (("c" : Str) : Str)]))) fun names => ?_
  refine ws_assoc ?_
  refine ws_set (rep := fun (g : Str × List Int) => fe g.1) (L' := fun (g : Str × List Int) => [(0, .lst (List.map em (g.2 : List Int)))]) ?_ fun make => ?_
  · exact w_bin (we (ev_var rfl) (wv (w_call (w_cons (we (ev_var rfl) (w_cons (we (ev_k) (w_nil (w_call1 0 (sp_l_draw stream (4 : Int)) rfl rfl rfl (fun _ => rfl)))))))) fun g_ => (w_withS (L' := fun (z9 : List Int) => [(0, .lst (List.map em (z9 : List Int)))]) (w_idx pk_fz) (fun _ o => o))))
  refine ws_assoc ?_
  refine ws_set (rep := fun (g : (List Str) × List Int) => fe g.1) (L' := fun (g : (List Str) × List Int) => [(0, .lst (List.map em (g.2 : List Int)))]) ?_ fun seen => ?_
  · exact w_lcR1 (j := fun (g : Int × List Int) => g.1) (L1 := fun (g : Int × List Int) => [(0, .lst (List.map em (g.2 : List Int)))]) (w_args1 (w_call (w_cons (we (ev_var rfl) (w_cons (we (ev_k) (w_nil (w_call1 0 (sp_l_draw make.2 (6 : Int)) rfl rfl rfl (fun _ => rfl))))))))) (fun (g : Int × List Int) xs => lcSZ_walk (Lf := fun (z9 : List Int) => [(0, .lst (List.map em (z9 : List Int)))]) (fun s_ k_ => w_bin (we (ev_var rfl) (wv (w_call (w_cons (we (ev_var rfl) (w_cons (we (ev_k) (w_nil (w_call1 0 (sp_l_draw s_ (4 : Int)) rfl rfl rfl (fun _ => rfl)))))))) fun g_3 => (w_withS (L' := fun (z9 : List Int) => [(0, .lst (List.map em (z9 : List Int)))]) (w_idx pk_fz) (fun _ o => o))))) xs g.2)
  refine ws_assoc ?_
  refine ws_set (w_ev (rep := fe (α := List Str)) (ev_ap (ev_cons (ev_var rfl) (ev_nil)) (ev_listL (xs := seen.1) pk_fz))) fun given => ?_
  refine ws_assoc ?_
  refine ws_set (rep := fe (α := Bool)) (L' := fun (_ : Bool) => [(0, .lst (List.map em (seen.2 : List Int)))]) ?_ fun found => ?_
  · exact w_methO (w_ev (rep := fe) (ev_var rfl)) (fun _ _ => rfl) (fun o_ => w_cons (we (ev_var rfl) (w_cons (we (ev_var rfl) (w_nil (w_calm (w_call0 (sp_Scheme_takes o_ make.1 given) rfl (fun _ _ => trivial))))))))
  refine ws_assoc ?_
  refine ws_ifG (bv := fun (g : Bool) => g) (L' := fun (g : Bool) => [(0, .lst (List.map em (seen.2 : List Int)))]) ?_ (fun b_ => ?_) (fun b_ => ?_)
  · exact w_or (w_ev (rep := id) (ev_not (ev_tru (ev_un (ev_var rfl) (ev_isi (p := em (found : Bool)) pk_fz (by rfl))) (ev_truB)))) (fun _ o => ⟨rfl, o⟩) (w_tru (wv (w_bin (we (ev_var rfl) (we (ev_var rfl) (w_neM pk_fz pk_fz)))) fun g_4 => w_ev (rep := id) (ev_truB)))
  · exact ws_ret0 (ev_k) fun _ o => qf1 0 rfl o
  · refine ws_skip ?_
    refine ws_retK (kr := fun (g : Bool) => (g, seen.2)) (rep := fun (g : Bool) => fe g) (L' := fun (g : Bool) => [(0, .lst (List.map em (seen.2 : List Int)))]) ?_ fun _ _ o => qf1 0 rfl o
    exact w_bin (we (ev_var rfl) (wv (w_call (w_cons (we (ev_var rfl) (w_cons (we (ev_var rfl) (w_cons (we (ev_var rfl) (w_nil (w_calm (w_call0 (sp_l_takes_F rules make.1 seen.1) rfl (fun _ _ => trivial))))))))))) fun g_5 => (w_ev (rep := fe) (ev_eq (α := Bool) pk_fz pk_fz))))
theorem lb_law_1 (makes : List Str) (rules : List (T2 (Tu Str) (Tu (T3 (Tu Str) Str Int)))) (hands : Crew) (plan : Scheme) (ranking : List Int) (second : List Int) (o0 : Option D) (o2 : Option D) (o9 : Option D) (q0 : List Int) (n0 : Nat) : ∀ (s : Unit) (j : Option D) (x : Tu Int), Wk ([(n0, .lst (List.map em (q0 : List Int)))]) (n_law_1 makes rules hands plan ranking second s x) (b_law_1 ([o0, some (.cell n0), o2, some (fe (makes : List Str)), some (fe (rules : List (T2 (Tu Str) (Tu (T3 (Tu Str) Str Int))))), some (fe (hands : Crew)), some (fe (plan : Scheme)), some (fe (ranking : List Int)), some (fe (second : List Int)), o9, some (fe (x : Tu Int)), none, none, none, none])) (QC (fun (s : Unit) (j : Option D) => [o0, some (.cell n0), o2, some (fe (makes : List Str)), some (fe (rules : List (T2 (Tu Str) (Tu (T3 (Tu Str) Str Int))))), some (fe (hands : Crew)), some (fe (plan : Scheme)), some (fe (ranking : List Int)), some (fe (second : List Int)), o9, j, none, none, none, none]) (fun s j => [(n0, .lst (List.map em (q0 : List Int)))]) QF0) XT := fun s j x => by
  unfold n_law_1
  delta b_law_1
  refine ws_last ?_
  refine ws_ifG (bv := fun (g : Bool) => g) (L' := fun (g : Bool) => [(n0, .lst (List.map em (q0 : List Int)))]) ?_ (fun b_2 => ?_) (fun b_2 => ?_)
  · exact w_not (wv (w_tru (wv (w_call (w_cons (we (ev_var rfl) (w_cons (we (ev_var rfl) (w_cons (we (ev_var rfl) (w_cons (we (ev_var rfl) (w_cons (we (ev_var rfl) (w_cons (we (ev_var rfl) (w_cons (we (ev_var rfl) (w_nil (w_call0 (sp_l_yard_fits hands plan makes rules ranking second x) rfl (fun _ _ => trivial)))))))))))))))))) fun g_ => w_ev (rep := id) (ev_truB))) fun b_ => w_ev (rep := id) (fun _ _ => rfl))
  · exact ws_ret0 (ev_k) fun _ o => ⟨qf0 fz_fz o, _, rfl⟩
  · refine ws_skip ?_
    exact ws_end fun _ o => ⟨.inl rfl, (some (fe (x : Tu Int))), rfl, o⟩
theorem lb_law_2 (makes : List Str) (rules : List (T2 (Tu Str) (Tu (T3 (Tu Str) Str Int)))) (ranking : List Int) (o0 : Option D) (o2 : Option D) (o5 : Option D) (o6 : Option D) (o8 : Option D) (o9 : Option D) (q0 : List Int) (n0 : Nat) (n1 : Nat) : ∀ (s : (List Int)) (j : Option D × Option D) (x : Tu Int), Wk ([(n0, .lst (List.map em (q0 : List Int))), (n1, .lst (List.map em (s : List Int)))]) (n_law_2 makes rules ranking s x) (b_law_2 ([o0, some (.cell n0), o2, some (fe (makes : List Str)), some (fe (rules : List (T2 (Tu Str) (Tu (T3 (Tu Str) Str Int))))), o5, o6, some (fe (ranking : List Int)), o8, o9, some (fe (x : Tu Int)), some (.cell n1), none, j.2, none])) (QB (fun (s : (List Int)) (j : Option D × Option D) => [o0, some (.cell n0), o2, some (fe (makes : List Str)), some (fe (rules : List (T2 (Tu Str) (Tu (T3 (Tu Str) Str Int))))), o5, o6, some (fe (ranking : List Int)), o8, o9, j.1, some (.cell n1), none, j.2, none]) (fun s j => [(n0, .lst (List.map em (q0 : List Int))), (n1, .lst (List.map em (s : List Int)))])) XT := fun s j x => by
  unfold n_law_2
  delta b_law_2
  refine ws_last ?_
  refine ws_assoc ?_
  refine ws_set (rep := fe (α := List Int)) (L' := fun (_ : List Int) => [(n0, .lst (List.map em (q0 : List Int))), (n1, .lst (List.map em (s : List Int)))]) ?_ fun lineup => ?_
  · exact w_lcL (it := fun xs => xs) (w_ev (rep := fe) (ev_var rfl)) (fun _ => src_l fz_fz) (fun xs => lcZ_walk (fun (at_ : Int) => w_ev (rep := id) (ev_tru (ev_bin (ev_var rfl) (ev_var rfl) (ev_inIT pk_fz)) (ev_truB))) (fun (at_ : Int) => w_ev (rep := fe) (ev_var rfl)) _)
  refine ws_append (rep := fe (α := Int)) (L' := fun (_ : Int) => [(n0, .lst (List.map em (q0 : List Int))), (n1, .lst (List.map em (s : List Int)))]) (v := fun (g_2 : Int) => (g_2 : Int)) (ys := fun (g_2 : Int) => s) (kp := 1) ?_ rfl rfl (fun _ => fz_fz) (fun _ => rfl) fun g_2 due => ?_
  · exact w_call (w_cons (wv (w_call (w_cons (we (ev_var rfl) (w_cons (we (ev_var rfl) (w_cons (we (ev_var rfl) (w_nil (w_call0 (sp_l_steps makes rules lineup) rfl (fun _ _ => trivial)))))))))) fun g_ => (w_nil (w_call0 (sp_l_first g_) rfl (fun _ _ => trivial)))))
  exact ws_end fun _ o => ⟨.inl rfl, (some (fe (x : Tu Int)), some (fe (lineup : List Int))), rfl, o⟩
theorem sp_law (script : Rol) : Sp0 (n_law script) F_law [em (script : Rol)] := by
  refine sp0_of rfl [some (fe (script : Rol)), none, none, none, none, none, none, none, none, none, none, none, none, none, none] rfl ?_
  unfold n_law
  delta b_law
  refine ws_last ?_
  refine ws_assoc ?_
  refine ws_setN (w_call (w_cons (we (ev_var rfl) (w_nil (w_callN (fun _ => rfl) (spn_l_stream script) rfl (fun _ _ => trivial)))))) fun stream n_ => ?_
  refine ws_assoc ?_
  refine ws_set (rep := fun (g : Int × List Int) => fe g.1) (L' := fun (g : Int × List Int) => [(n_, .lst (List.map em (g.2 : List Int)))]) ?_ fun size => ?_
  · exact w_call (w_cons (we (ev_var rfl) (w_nil (w_call1 0 (sp_l_size stream) rfl rfl rfl (fun _ => rfl)))))
  refine ws_assoc ?_
  refine ws_set (rep := fun (g : (List Str) × List Int) => fe g.1) (L' := fun (g : (List Str) × List Int) => [(n_, .lst (List.map em (g.2 : List Int)))]) ?_ fun makes => ?_
  · exact w_call (w_cons (we (ev_var rfl) (w_cons (we (ev_var rfl) (w_nil (w_call1 0 (sp_l_makes size.2 size.1) rfl rfl rfl (fun _ => rfl)))))))
  refine ws_assoc ?_
  refine ws_set (rep := fun (g : (List (T2 (Tu Str) (Tu (T3 (Tu Str) Str Int)))) × List Int) => fe g.1) (L' := fun (g : (List (T2 (Tu Str) (Tu (T3 (Tu Str) Str Int)))) × List Int) => [(n_, .lst (List.map em (g.2 : List Int)))]) ?_ fun rules => ?_
  · exact w_call (w_cons (we (ev_var rfl) (w_nil (w_call1 0 (sp_l_rules makes.2) rfl rfl rfl (fun _ => rfl)))))
  refine ws_assoc ?_
  refine ws_set (rep := fun (g : Crew × List Int) => fe g.1) (L' := fun (g : Crew × List Int) => [(n_, .lst (List.map em (g.2 : List Int)))]) ?_ fun hands => ?_
  · exact w_new (w_cons (wv (w_call (w_cons (we (ev_var rfl) (w_cons (wv (w_call (w_cons (we (ev_var rfl) (w_cons (we (ev_k) (w_nil (w_call1 0 (sp_l_draw rules.2 (6 : Int)) rfl rfl rfl (fun _ => rfl)))))))) fun g_ => (w_nil (w_withS (L' := fun (z9 : List Int) => [(n_, .lst (List.map em (z9 : List Int)))]) (w_call0 (sp_l_workers makes.1 g_.1) rfl (fun _ _ => trivial)) (fun _ o => o)))))))) fun g_2 => (w_nil (w_withS (L' := fun (z9 : List Int) => [(n_, .lst (List.map em (z9 : List Int)))]) (w_new_crew) (fun _ o => o)))))
  refine ws_assoc ?_
  refine ws_set (rep := fe (α := Scheme)) (L' := fun (_ : Scheme) => [(n_, .lst (List.map em (hands.2 : List Int)))]) ?_ fun plan => ?_
  · exact w_new (w_cons (we (ev_ap (ev_cons (ev_var rfl) (ev_nil)) (ev_listL (xs := rules.1) pk_fz)) (w_nil (w_new_scheme))))
  refine ws_assoc ?_
  refine ws_set (rep := fun (g : (List Int) × List Int) => fe g.1) (L' := fun (g : (List Int) × List Int) => [(n_, .lst (List.map em (g.2 : List Int)))]) ?_ fun ranking => ?_
  · exact w_call (w_cons (we (ev_var rfl) (w_cons (we (ev_var rfl) (w_nil (w_call1 0 (sp_l_ranking hands.2 size.1) rfl rfl rfl (fun _ => rfl)))))))
  refine ws_assoc ?_
  refine ws_set (rep := fun (g : (List Int) × List Int) => fe g.1) (L' := fun (g : (List Int) × List Int) => [(n_, .lst (List.map em (g.2 : List Int)))]) ?_ fun second => ?_
  · exact w_call (w_cons (we (ev_var rfl) (w_cons (we (ev_var rfl) (w_nil (w_call1 0 (sp_l_ranking ranking.2 size.1) rfl rfl rfl (fun _ => rfl)))))))
  refine ws_assoc ?_
  refine ws_set (rep := fun (g : (List (Tu Int)) × List Int) => fe g.1) (L' := fun (g : (List (Tu Int)) × List Int) => [(n_, .lst (List.map em (g.2 : List Int)))]) ?_ fun spots => ?_
  · exact w_call (w_cons (we (ev_var rfl) (w_cons (we (ev_var rfl) (w_cons (wv (w_bin (we (ev_k) (wv (w_call (w_cons (we (ev_var rfl) (w_cons (we (ev_k) (w_nil (w_call1 0 (sp_l_draw second.2 (4 : Int)) rfl rfl rfl (fun _ => rfl)))))))) fun g_3 => (w_ok (rep := fun (g : Int × List Int) => fe g.1) (L' := fun (g : Int × List Int) => [(n_, .lst (List.map em (g.2 : List Int)))]) (ev_addI) (fun _ o => o))))) fun g_4 => (w_nil (w_call1 0 (sp_l_spots g_4.2 size.1 g_4.1) rfl rfl rfl (fun _ => rfl)))))))))
  refine ws_assoc ?_
  refine ws_cutL (J := Option D) (E := fun (s9 : Unit) (j9 : Option D) => [some (fe (script : Rol)), some (.cell n_), some (fe (size.1 : Int)), some (fe (makes.1 : List Str)), some (fe (rules.1 : List (T2 (Tu Str) (Tu (T3 (Tu Str) Str Int))))), some (fe (hands.1 : Crew)), some (fe (plan : Scheme)), some (fe (ranking.1 : List Int)), some (fe (second.1 : List Int)), some (fe (spots.1 : List (Tu Int))), j9, none, none, none, none]) (Lf := fun s9 j9 => [(n_, .lst (List.map em (spots.2 : List Int)))]) (Qr := QF0) (kr := (fun v => v)) ?_ (fun u_ j_ => ?_) (fun _ _ h _ => h)
  · refine w_forP (it := spots.1) (ev_var rfl) (src_l (fz_fz)) ?_
    exact loop_lc (E := fun (s9 : Unit) (j9 : Option D) => [some (fe (script : Rol)), some (.cell n_), some (fe (size.1 : Int)), some (fe (makes.1 : List Str)), some (fe (rules.1 : List (T2 (Tu Str) (Tu (T3 (Tu Str) Str Int))))), some (fe (hands.1 : Crew)), some (fe (plan : Scheme)), some (fe (ranking.1 : List Int)), some (fe (second.1 : List Int)), some (fe (spots.1 : List (Tu Int))), j9, none, none, none, none]) (Lf := fun s9 j9 => [(n_, .lst (List.map em (spots.2 : List Int)))]) (h := em) (fun _ _ _ _ => rfl) (lb_law_1 makes.1 rules.1 hands.1 plan ranking.1 second.1 (some (fe (script : Rol))) (some (fe (size.1 : Int))) (some (fe (spots.1 : List (Tu Int)))) spots.2 n_) _ () none
  refine ws_assoc ?_
  refine ws_setN (w_newL (ev_nil)) fun due n_2 => ?_
  refine ws_assoc ?_
  refine ws_cut (J := Option D × Option D) (E := fun (s92 : (List Int)) (j92 : Option D × Option D) => [some (fe (script : Rol)), some (.cell n_), some (fe (size.1 : Int)), some (fe (makes.1 : List Str)), some (fe (rules.1 : List (T2 (Tu Str) (Tu (T3 (Tu Str) Str Int))))), some (fe (hands.1 : Crew)), some (fe (plan : Scheme)), some (fe (ranking.1 : List Int)), some (fe (second.1 : List Int)), some (fe (spots.1 : List (Tu Int))), j92.1, some (.cell n_2), none, j92.2, none]) (Lf := fun s92 j92 => [(n_, .lst (List.map em (spots.2 : List Int))), (n_2, .lst (List.map em (s92 : List Int)))]) ?_ fun q_ j_2 => ?_
  · refine w_forP (it := spots.1) (ev_var rfl) (src_l (fz_fz)) ?_
    exact loop_fold (E := fun (s92 : (List Int)) (j92 : Option D × Option D) => [some (fe (script : Rol)), some (.cell n_), some (fe (size.1 : Int)), some (fe (makes.1 : List Str)), some (fe (rules.1 : List (T2 (Tu Str) (Tu (T3 (Tu Str) Str Int))))), some (fe (hands.1 : Crew)), some (fe (plan : Scheme)), some (fe (ranking.1 : List Int)), some (fe (second.1 : List Int)), some (fe (spots.1 : List (Tu Int))), j92.1, some (.cell n_2), none, j92.2, none]) (Lf := fun s92 j92 => [(n_, .lst (List.map em (spots.2 : List Int))), (n_2, .lst (List.map em (s92 : List Int)))]) (h := em) (fun _ _ _ _ => rfl) (lb_law_2 makes.1 rules.1 ranking.1 (some (fe (script : Rol))) (some (fe (size.1 : Int))) (some (fe (hands.1 : Crew))) (some (fe (plan : Scheme))) (some (fe (second.1 : List Int))) (some (fe (spots.1 : List (Tu Int)))) spots.2 n_ n_2) _ due (j_, none)
  refine ws_assoc ?_
  refine ws_set (rep := fe (α := List Int)) (L' := fun (_ : List Int) => [(n_, .lst (List.map em (spots.2 : List Int))), (n_2, .lst (List.map em (q_ : List Int)))]) ?_ fun found => ?_
  · exact w_call (w_cons (we (ev_var rfl) (w_cons (we (ev_var rfl) (w_cons (we (ev_ap (ev_cons (ev_var rfl) (ev_nil)) (ev_listL (xs := ranking.1) pk_fz)) (w_cons (we (ev_ap (ev_cons (ev_var rfl) (ev_nil)) (ev_listL (xs := spots.1) pk_fz)) (w_nil (w_call0 (sp_holders hands.1 plan ranking.1 spots.1) rfl (fun _ _ => trivial)))))))))))
  refine ws_assoc ?_
  refine ws_ifP (ev_or (ev_not (ev_tru (ev_un (ev_var rfl) (ev_isi (p := em (found : List Int)) pk_fz (by rfl))) (ev_truB))) (ev_tru (ev_bin (ev_var rfl) (ev_var rfl) (ev_ne (α := (List Int)) pk_fz (pk_lst 1))) (ev_truB))) (fun _ => ?_) (fun _ => ?_)
  · exact ws_ret0 (ev_k) fun _ o => qf0 fz_fz o
  · refine ws_skip ?_
    refine ws_assoc ?_
    refine ws_ifG (bv := fun (g : Bool × List Int) => g.1) (L' := fun (g : Bool × List Int) => [(n_, .lst (List.map em (g.2 : List Int))), (n_2, .lst (List.map em (q_ : List Int)))]) ?_ (fun b_ => ?_) (fun b_ => ?_)
    · exact w_not (wv (w_tru (wv (w_call (w_cons (we (ev_var rfl) (w_cons (we (ev_var rfl) (w_cons (we (ev_var rfl) (w_cons (we (ev_var rfl) (w_cons (we (ev_var rfl) (w_nil (w_call1 0 (sp_l_refuses spots.2 hands.1 plan ranking.1 spots.1) rfl rfl rfl (fun _ => rfl)))))))))))))) fun g_5 => w_ok (rep := fun (g : Bool × List Int) => g.1) (L' := fun (g : Bool × List Int) => [(n_, .lst (List.map em (g.2 : List Int))), (n_2, .lst (List.map em (q_ : List Int)))]) (ev_truB) (fun _ o => o))) fun g_6 => w_ok (rep := fun (g : Bool × List Int) => g.1) (L' := fun (g : Bool × List Int) => [(n_, .lst (List.map em (g.2 : List Int))), (n_2, .lst (List.map em (q_ : List Int)))]) (t := (!g_6.1, g_6.2)) (fun _ _ => rfl) (fun _ o => o))
    · exact ws_ret0 (ev_k) fun _ o => qf0 fz_fz o
    · refine ws_skip ?_
      refine ws_retK (kr := fun (g : Bool × List Int) => g.1) (rep := fun (g : Bool × List Int) => fe g.1) (L' := fun (g : Bool × List Int) => [(n_, .lst (List.map em (g.2 : List Int))), (n_2, .lst (List.map em (q_ : List Int)))]) ?_ fun _ _ o => qf0 fz_fz o
      exact w_call (w_cons (we (ev_var rfl) (w_cons (we (ev_var rfl) (w_cons (we (ev_var rfl) (w_nil (w_call1 0 (sp_l_takes_alike b_.2 plan rules.1) rfl rfl rfl (fun _ => rfl)))))))))
end G
end
section
set_option Elab.async false
set_option linter.all false
set_option maxRecDepth 100000
set_option maxHeartbeats 0
namespace Yd
open PySem L2 M N
abbrev Grp := Tu Str
abbrev Bnd := T3 (Tu Str) Str Int
abbrev Rul := T2 (Tu Str) (Tu (T3 (Tu Str) Str Int))
abbrev Stp := T2 Int Bool
def inG (g : Grp) (m : Str) : Bool := decide (g = ⟨["any"]⟩) || decide (g.l[1]? = some m)
def cnt (g : Grp) (seen : List Str) : Int := ((seen.filter (inG g)).length : Nat)
def bOk (seen : List Str) (b : Bnd) : Bool := if b.b = "<" then decide (cnt b.a seen < b.c) else decide (b.c ≤ cnt b.a seen)
def rOk (seen : List Str) (m : Str) (r : Rul) : Bool := inG r.a m && r.b.l.all (bOk seen)
def tk (rs : List Rul) (m : Str) (seen : List Str) : Bool := rs.any (rOk seen m)
def stp (rs : List Rul) (mk : Int → Str) : List Str → List Int → List Stp
  | _, [] => []
  | seen, w :: r => ⟨w, tk rs (mk w) seen⟩ :: stp rs mk (seen ++ [mk w]) r
def first (l : List Stp) : Int := match l.find? (·.b) with
  | some x => x.a
  | none => match l with
    | x :: _ => x.a
    | [] => 0
def lin (r y : List Int) : List Int := r.filter fun x => decide (x ∈ y)
def rr (p : Int → Bool) : List Int → List Int → List Int
  | [], _ => []
  | x :: s, rest => if p x = true then (match rest with
    | [] => []
    | z :: r => z :: rr p s r) else x :: rr p s rest
section
variable {rs : List Rul} {mk : Int → Str}
theorem stp_app : ∀ (a b : List Int) (seen : List Str), stp rs mk seen (a ++ b) = stp rs mk seen a ++ stp rs mk (seen ++ a.map mk) b
  | [], b, seen => by rw [List.map_nil, List.append_nil]; rfl
  | w :: a, b, seen => by
    show _ :: stp rs mk (seen ++ [mk w]) (a ++ b) = _ :: (stp rs mk (seen ++ [mk w]) a ++ _)
    rw [stp_app a b]
    simp
theorem stp_mem : ∀ {l : List Int} {seen : List Str} {x : Stp}, x ∈ stp rs mk seen l → x.a ∈ l
  | [], _, _, h => by cases h
  | w :: l, seen, x, h => by
    rcases List.mem_cons.mp h with rfl | h
    · exact List.mem_cons_self
    · exact List.mem_cons_of_mem _ (stp_mem h)
theorem stp_ne {l : List Int} {seen : List Str} (h : l ≠ []) : stp rs mk seen l ≠ [] := by
  cases l with
  | nil => exact absurd rfl h
  | cons => exact fun e => by cases e
theorem first_skip {w : Int} {T : List Stp} : ∀ {S : List Stp}, (∀ x ∈ S, x.b = false) → first (S ++ ⟨w, true⟩ :: T) = w := fun {S} h => by
  unfold first
  rw [List.find?_append, List.find?_eq_none.mpr fun x hx => by rw [h x hx]; decide]
  rfl
theorem first_in {S T : List Stp} {x : Stp} (hx : x ∈ S) (hb : x.b = true) : ∃ z ∈ S, first (S ++ T) = z.a := by
  unfold first
  cases e : S.find? (·.b) with
  | none => exact absurd hb (List.find?_eq_none.mp e x hx)
  | some z =>
    refine ⟨z, List.mem_of_find?_eq_some e, ?_⟩
    rw [List.find?_append, e]
    rfl
theorem first_of {l : List Stp} (h : l ≠ []) : first l ∈ l.map (·.a) := by
  unfold first
  cases e : l.find? (·.b) with
  | some x => exact List.mem_map.mpr ⟨x, List.mem_of_find?_eq_some e, rfl⟩
  | none =>
    cases l with
    | nil => exact absurd rfl h
    | cons x r => exact List.mem_cons_self
theorem lin_mem {r y : List Int} {x : Int} : x ∈ lin r y ↔ x ∈ r ∧ x ∈ y := by unfold lin; rw [List.mem_filter, decide_eq_true_iff]
theorem lin_cons {A B y : List Int} {w : Int} (h : w ∈ y) : lin (A ++ w :: B) y = lin A y ++ w :: lin B y := by
  unfold lin
  rw [List.filter_append, List.filter_cons_of_pos (p := fun x => decide (x ∈ y)) (decide_eq_true h)]
theorem lin_same {A y y' : List Int} (h : ∀ x ∈ A, (x ∈ y ↔ x ∈ y')) : lin A y = lin A y' := by
  unfold lin
  exact List.filter_congr fun x hx => by rw [decide_eq_decide]; exact h x hx
/-- a taken holder stays when one behind it comes or goes -/
theorem stays {A B y y' : List Int} {w : Int} (hw : w ∈ y) (hw' : w ∈ y') (hA : ∀ x ∈ A, (x ∈ y ↔ x ∈ y')) (h1 : w ∉ A) (h2 : w ∉ B) (hf : first (stp rs mk [] (lin (A ++ w :: B) y)) = w) (ht : (⟨w, true⟩ : Stp) ∈ stp rs mk [] (lin (A ++ w :: B) y)) : first (stp rs mk [] (lin (A ++ w :: B) y')) = w := by
  rw [lin_cons hw, stp_app] at hf ht
  rw [lin_cons hw', ← lin_same hA, stp_app]
  have nS : ∀ x ∈ stp rs mk [] (lin A y), x.a ≠ w := fun x hx e => h1 (by rw [← e]; exact (lin_mem.mp (stp_mem hx)).1)
  have hS : ∀ x ∈ stp rs mk [] (lin A y), x.b = false := fun x hx => by
    cases hb : x.b with
    | false => rfl
    | true =>
      obtain ⟨z, hz, e⟩ := first_in (T := stp rs mk ([] ++ (lin A y).map mk) (w :: lin B y)) hx hb
      exact absurd (e.symm.trans hf) (nS z hz)
  have htk : tk rs (mk w) ([] ++ (lin A y).map mk) = true := by
    rcases List.mem_append.mp ht with h | h
    · exact absurd rfl (nS _ h)
    · rcases List.mem_cons.mp h with h | h
      · exact (congrArg T2.b h).symm
      · exact absurd (lin_mem.mp (stp_mem h)).1 h2
  show first (_ ++ ⟨w, tk rs (mk w) ([] ++ (lin A y).map mk)⟩ :: _) = w
  rw [htk]
  exact first_skip hS
end
theorem rr_all {p : Int → Bool} : ∀ (s rest : List Int), rest.length = (s.filter p).length → (∀ x ∈ rest, p x = true) → (rr p s rest).filter p = rest ∧ (rr p s rest).filter (fun x => !p x) = s.filter (fun x => !p x)
  | [], rest, h, _ => by
    have : rest = [] := List.length_eq_zero_iff.mp h
    subst this; exact ⟨rfl, rfl⟩
  | x :: s, rest, h, hp => by
    unfold rr
    by_cases c : p x = true
    · rw [if_pos c]
      rw [List.filter_cons_of_pos c] at h
      cases rest with
      | nil => cases h
      | cons z r =>
        have hz := hp z List.mem_cons_self
        obtain ⟨a1, a2⟩ := rr_all s r (Nat.succ.inj h) fun y hy => hp y (List.mem_cons_of_mem _ hy)
        dsimp only
        rw [List.filter_cons_of_pos hz, a1, List.filter_cons_of_neg (p := fun x => !p x) (by rw [hz]; decide), a2, List.filter_cons_of_neg (p := fun x => !p x) (by rw [c]; decide)]
        exact ⟨rfl, rfl⟩
    · rw [if_neg c]
      rw [List.filter_cons_of_neg c] at h
      obtain ⟨a1, a2⟩ := rr_all s rest h hp
      have c' : (!p x) = true := by simpa using c
      rw [List.filter_cons_of_neg c, a1, List.filter_cons_of_pos (p := fun x => !p x) c', a2, List.filter_cons_of_pos (p := fun x => !p x) c']
      exact ⟨rfl, rfl⟩
theorem rr_perm {p : Int → Bool} {s rest : List Int} (h : rest.Perm (s.filter p)) : (rr p s rest).Perm s := by
  obtain ⟨a1, a2⟩ := rr_all s rest h.length_eq fun x hx => (List.mem_filter.mp (h.mem_iff.mp hx)).2
  have e1 := List.filter_append_perm p (rr p s rest)
  rw [a1, a2] at e1
  exact (e1.symm.trans (h.append_right _)).trans (List.filter_append_perm p s)
end Yd
end
section
set_option Elab.async false
set_option linter.all false
set_option maxRecDepth 100000
set_option maxHeartbeats 0
namespace G
open PySem L2 M N Yd
theorem draw_ok {s : List Int} {n : Int} (h : 0 < n) : n_l_draw s n = .ok (drawV s n, drawS s) := if_pos h
theorem gets_draw {s : List Int} {n : Int} (h : 0 < n) : Gets (n_l_draw s n) fun g => 0 ≤ g.1 ∧ g.1 < n := gets_eq (draw_ok h) (drawV_bd h)
theorem gets_pick {α : Type} {s : List Int} {n : Int} {xs : List α} (h : 0 < n) (hl : n ≤ xs.length) : Gets ((n_l_draw s n).bind fun g_ => (N.idx xs g_.1).bind fun v => Rs.ok (v, g_.2)) fun g => g.1 ∈ xs := by
  refine gets_bind (gets_draw h) fun g hg => ?_
  obtain ⟨a, e1, e2, _⟩ := N.idx_mem (xs := xs) hg.1 (by omega)
  exact gets_bindE e1 (gets_ok e2)
def mkL : List Str := ["a", "b", "any", "c"]
def grL : List Grp := [⟨["any"]⟩, ⟨["make", "a"]⟩, ⟨["make", "b"]⟩, ⟨["make", "any"]⟩, ⟨["make", "c"]⟩]
def sgL : List Str := ["<", ">="]
def GOk (g : Grp) : Prop := g ∈ grL
def Mks (l : List Str) : Prop := ∀ m ∈ l, m ∈ mkL
theorem grp_ok {g : Grp} (h : GOk g) {m : Str} (hm : m ∈ mkL) : ((eqM (em (g : Tu Str)) (em ((⟨("any" : Str)⟩ : T1 Str) : T1 Str))).bind fun b => if b = true then Rs.ok true else (N.idx g.l (1 : Int)).bind fun g_ => eqM (em (g_ : Str)) (em (m : Str))) = .ok (inG g m) := by
  unfold GOk at h
  simp only [grL, mkL, List.mem_cons, List.not_mem_nil, or_false] at h hm
  rcases h with rfl | rfl | rfl | rfl | rfl <;> rcases hm with rfl | rfl | rfl | rfl <;> kernel_rfl
theorem belongs_ok {g : Grp} (h : GOk g) {m : Str} (hm : m ∈ mkL) : n_belongs m g = .ok (inG g m) := by unfold n_belongs; exact grp_ok h hm
theorem group_ok {g : Grp} (h : GOk g) {m : Str} (hm : m ∈ mkL) : n_l_in_group g m = .ok (inG g m) := by unfold n_l_in_group; exact grp_ok h hm
theorem cnt_lc {g : Grp} {t : Str → Rs Bool} {seen : List Str} (ht : ∀ m ∈ seen, t m = .ok (inG g m)) (hl : seen.length ≤ 1000) : ((calm (lcN t (fun m : Str => Rs.ok m) seen [])).bind fun g_2 => Rs.ok (lenI g_2)) = .ok (cnt g seen) := by
  rw [lcN_filter (p := inG g) (g := fun x => x) ht (fun _ _ _ => rfl) (by omega), ok_bind, List.map_id']
  rfl
def BndOk (b : Bnd) : Prop := GOk b.a ∧ b.b ∈ sgL
def RuOk (r : Rul) : Prop := GOk r.a ∧ r.b.l.length ≤ 3 ∧ ∀ b ∈ r.b.l, BndOk b
theorem sign_ok {b : Bnd} (h : b.b ∈ sgL) : eqM (em (b.b : Str)) (em (("<" : Str) : Str)) = .ok (decide (b.b = "<")) := by
  simp only [sgL, List.mem_cons, List.not_mem_nil, or_false] at h
  rcases h with e | e <;> rw [e] <;> kernel_rfl
theorem bound_ok {b : Bnd} (h : BndOk b) {seen : List Str} (hm : Mks seen) (hl : seen.length ≤ 1000) : n_bound_holds b seen = .ok (bOk seen b) := by
  unfold n_bound_holds
  rw [ok_bind, ok_bind, cnt_lc (g := b.a) (fun m hx => by rw [belongs_ok h.1 (hm m hx), ok_bind]) hl, ok_bind, sign_ok h.2, ok_bind, ok_bind]
  unfold bOk
  by_cases c : b.b = "<"
  · rw [if_pos (decide_eq_true c), if_pos c]
  · rw [if_neg (by rw [decide_eq_false c]; decide), if_neg c]
theorem loop_any {α ρ : Type} {f : Unit → α → Rs (LC Unit ρ)} {p : α → Bool} {v : ρ} : ∀ (xs : List α), (∀ x ∈ xs, f () x = .ok (if p x = true then .rt v else .nx ())) → loopRs f xs () = .ok (if xs.any p = true then .inr v else .inl ())
  | [], _ => rfl
  | x :: xs, h => by
    have hx := h x List.mem_cons_self
    rw [List.any_cons]
    cases e : p x with
    | true =>
      rw [e, if_pos rfl] at hx
      rw [loopRs_rt hx, Bool.true_or, if_pos rfl]
    | false =>
      rw [e, if_neg Bool.false_ne_true] at hx
      rw [loopRs_nx hx, Bool.false_or]
      exact loop_any xs fun y hy => h y (List.mem_cons_of_mem _ hy)
theorem takes_ok {rs : List Rul} (hr : ∀ r ∈ rs, RuOk r) {m : Str} {seen : List Str} (h0 : m ∈ mkL) (hm : Mks seen) (hl : seen.length ≤ 1000) : n_Scheme_takes ⟨rs⟩ m seen = .ok (tk rs m seen) := by
  unfold n_Scheme_takes
  dsimp only
  rw [loop_any (p := rOk seen m) (v := true) rs fun r h => ?_]
  · unfold tk
    cases rs.any (rOk seen m) <;> rfl
  · obtain ⟨h1, h2, h3⟩ := hr r h
    unfold n_Scheme_takes_1
    rw [belongs_ok h1 h0, ok_bind, ok_bind]
    unfold rOk
    cases inG r.a m with
    | false => rfl
    | true =>
      rw [if_pos rfl, ok_bind, lcN_ok (g := bOk seen) (fun b hb => bound_ok (h3 b hb) hm hl) (by omega), ok_bind, ok_bind, ok_bind, Bool.true_and, show ((r.b.l.map (bOk seen)).all id) = r.b.l.all (bOk seen) by rw [List.all_map]; rfl]
      cases r.b.l.all (bOk seen) with
      | false => rfl
      | true => rfl
theorem lbnd {b : Bnd} (hb : b.b ∈ sgL) {seen : List Str} {s : Bool} : ((eqM (em (b.b : Str)) (em (("<" : Str) : Str))).bind fun below => if (!decide (below = (decide (cnt b.a seen < b.c)))) = true then (Rs.ok (false : Bool)).bind fun fits => Rs.ok fits else Rs.ok s) = .ok (s && bOk seen b) := by
  rw [sign_ok hb, ok_bind]
  unfold bOk
  by_cases c : b.b = "<"
  · rw [decide_eq_true c, if_pos c]
    by_cases d : cnt b.a seen < b.c
    · rw [decide_eq_true d, Bool.and_true]; rfl
    · rw [decide_eq_false d, Bool.and_false]; rfl
  · rw [decide_eq_false c, if_neg c]
    by_cases d : cnt b.a seen < b.c
    · rw [decide_eq_true d, decide_eq_false (show ¬ b.c ≤ cnt b.a seen by omega), Bool.and_false]; rfl
    · rw [decide_eq_false d, decide_eq_true (show b.c ≤ cnt b.a seen by omega), Bool.and_true]; rfl
theorem fold_all {α : Type} {f : Bool → α → Rs Bool} {p : α → Bool} : ∀ (xs : List α) (s : Bool), (∀ x ∈ xs, ∀ s, f s x = .ok (s && p x)) → foldRs f xs s = .ok (s && xs.all p)
  | [], s, _ => by rw [List.all_nil, Bool.and_true]; rfl
  | x :: xs, s, h => by rw [foldRs_cons, h x List.mem_cons_self, ok_bind, fold_all xs _ fun y hy => h y (List.mem_cons_of_mem _ hy), List.all_cons, Bool.and_assoc]
theorem ltakes_ok {rs : List Rul} (hr : ∀ r ∈ rs, RuOk r) {m : Str} {seen : List Str} (h0 : m ∈ mkL) (hm : Mks seen) (hl : seen.length ≤ 1000) : n_l_takes rs m seen = .ok (tk rs m seen, seen) := by
  unfold n_l_takes
  rw [loop_any (p := rOk seen m) (v := (true, seen)) rs fun r h => ?_]
  · unfold tk
    cases rs.any (rOk seen m) <;> rfl
  · obtain ⟨h1, h2, h3⟩ := hr r h
    unfold n_l_takes_1
    rw [group_ok h1 h0, calm_ok, ok_bind, fold_all (p := bOk seen) r.b.l _ fun b hb s => ?_, ok_bind]
    · unfold rOk
      cases (inG r.a m && r.b.l.all (bOk seen)) <;> rfl
    · unfold n_l_takes_2
      rw [cnt_lc (g := b.a) (fun m hx => by rw [group_ok (h3 b hb).1 (hm m hx), ok_bind]) hl, ok_bind]
      exact lbnd (h3 b hb).2
theorem ltakesF_ok {rs : List Rul} (hr : ∀ r ∈ rs, RuOk r) {m : Str} {seen : List Str} (h0 : m ∈ mkL) (hm : Mks seen) (hl : seen.length ≤ 1000) : n_l_takes_F rs m seen = .ok (tk rs m seen) := by
  unfold n_l_takes_F
  rw [loop_any (p := rOk seen m) (v := true) rs fun r h => ?_]
  · unfold tk
    cases rs.any (rOk seen m) <;> rfl
  · obtain ⟨h1, h2, h3⟩ := hr r h
    unfold n_l_takes_F_1
    rw [group_ok h1 h0, ok_bind, fold_all (p := bOk seen) r.b.l _ fun b hb s => ?_, ok_bind]
    · unfold rOk
      cases (inG r.a m && r.b.l.all (bOk seen)) <;> rfl
    · unfold n_l_takes_F_2
      rw [ok_bind, cnt_lc (g := b.a) (fun m hx => by rw [group_ok (h3 b hb).1 (hm m hx), ok_bind]) hl, ok_bind]
      exact lbnd (h3 b hb).2
theorem mks_shp {l : List Str} (h : Mks l) : shP (em (l : List Str)) = true := by
  have c1 : ∀ l : List Str, Mks l → PyData.canLayAll0 (toPys (l.map em)) = true ∧ PyData.depthAll (toPys (l.map em)) = 0 := by
    intro l
    induction l with
    | nil => exact fun _ => ⟨rfl, rfl⟩
    | cons x l ih =>
      intro h
      obtain ⟨i1, i2⟩ := ih fun m hm => h m (List.mem_cons_of_mem _ hm)
      have hx := h x List.mem_cons_self
      have e0 : PyData.canLay0 (.str x) = true := by
        simp only [mkL, List.mem_cons, List.not_mem_nil, or_false] at hx
        rcases hx with rfl | rfl | rfl | rfl <;> kernel_rfl
      rw [List.map_cons]
      show PyData.canLayAll0 (.str x :: toPys (l.map em)) = true ∧ PyData.depthAll (.str x :: toPys (l.map em)) = 0
      rw [PyData.canLayAll0, PyData.depthAll, e0, i1, i2]
      exact ⟨rfl, rfl⟩
  obtain ⟨i1, i2⟩ := c1 l h
  show SeqAt.shaped (.list (toPys (l.map em))) = true
  unfold SeqAt.shaped
  rw [show PyData.canLay0 (.list (toPys (l.map em))) = true from i1, show PyData.depth (.list (toPys (l.map em))) = 1 by rw [PyData.depth, i2]]
  rfl
end G
end
section
set_option Elab.async false
set_option linter.all false
set_option maxRecDepth 100000
set_option maxHeartbeats 0
namespace G
open PySem L2 M N Yd
def mkF (mk : List Str) (w : Int) : Str := mk.getD w.toNat ""
structure Cw (n : Nat) (mk : List Str) (ws : List CrW) (rs : List Rul) : Prop where
  n6 : n ≤ 6
  len : mk.length = n
  wks : ws.map (·.b) = mk
  mks : Mks mk
  rls : ∀ r ∈ rs, RuOk r
def InR (n : Nat) (l : List Int) : Prop := ∀ x ∈ l, 0 ≤ x ∧ x < n
theorem idx_mk {n : Nat} {mk : List Str} (h : mk.length = n) {w : Int} (h0 : 0 ≤ w ∧ w < n) : N.idx mk w = .ok (mkF mk w) := by
  refine idx_pos h0.1 ?_
  have : w.toNat < mk.length := by omega
  unfold mkF
  rw [List.getD_eq_getElem?_getD, List.getElem?_eq_getElem this]; rfl
theorem mkF_mem {n : Nat} {mk : List Str} (h : mk.length = n) (hm : Mks mk) {w : Int} (h0 : 0 ≤ w ∧ w < n) : mkF mk w ∈ mkL := by
  have : w.toNat < mk.length := by omega
  unfold mkF
  rw [List.getD_eq_getElem?_getD, List.getElem?_eq_getElem this]
  exact hm _ (List.getElem_mem this)
theorem Cw.wl {n : Nat} {mk : List Str} {ws : List CrW} {rs : List Rul} (c : Cw n mk ws rs) : ws.length = n := by
  have := congrArg List.length c.wks
  rw [List.length_map] at this
  rw [this, c.len]
section
variable {n : Nat} {mk : List Str} {ws : List CrW} {rs : List Rul} (c : Cw n mk ws rs)
include c
theorem lsteps_loop : ∀ (l : List Int) (seen : List Str) (acc : List Stp), InR n l → Mks seen → seen.length + l.length ≤ 1000 → acc.length + l.length ≤ 1000 → foldRs (n_l_steps_1 mk rs) l (seen, acc) = .ok (seen ++ l.map (mkF mk), acc ++ stp rs (mkF mk) seen l)
  | [], seen, acc, _, _, _, _ => by rw [List.map_nil, List.append_nil]; show Rs.ok (seen, acc) = .ok (seen, acc ++ []); rw [List.append_nil]
  | w :: l, seen, acc, h, hs, h1, h2 => by
    rw [List.length_cons] at h1 h2
    have hwm := mkF_mem c.len c.mks (h w List.mem_cons_self)
    have hw := idx_mk c.len (h w List.mem_cons_self)
    have e : n_l_steps_1 mk rs (seen, acc) w = .ok (seen ++ [mkF mk w], acc ++ [⟨w, tk rs (mkF mk w) seen⟩]) := by
      unfold n_l_steps_1
      dsimp only
      rw [hw, ok_bind, ltakes_ok c.rls hwm hs (by omega), ok_bind, ok_bind, N.app_ok (by omega), ok_bind, ok_bind, N.app_ok (by dsimp only; omega), ok_bind]
    rw [foldRs_cons, e, ok_bind, lsteps_loop l _ _ (fun x hx => h x (List.mem_cons_of_mem _ hx)) (fun m hm => (List.mem_append.mp hm).elim (hs m) fun z => by rw [List.mem_singleton.mp z]; exact hwm) (by rw [List.length_append]; simp only [List.length_cons, List.length_nil]; omega) (by rw [List.length_append]; simp only [List.length_cons, List.length_nil]; omega)]
    show Rs.ok _ = Rs.ok _
    simp [stp]
theorem lsteps_ok {l : List Int} (h : InR n l) (hl : l.length ≤ 1000) : n_l_steps mk rs l = .ok (stp rs (mkF mk) [] l) := by
  unfold n_l_steps
  rw [ok_bind, ok_bind, lsteps_loop c l [] [] h (fun _ hm => by cases hm) (by simpa using hl) (by simpa using hl), ok_bind]
  rfl
theorem make_ok {w : Int} (h : 0 ≤ w ∧ w < n) : n_Crew_make_of ⟨ws⟩ w = .ok (mkF mk w) := by
  have hl := c.wl
  have hw : w.toNat < ws.length := by omega
  unfold n_Crew_make_of
  dsimp only
  rw [idx_pos h.1 (List.getElem?_eq_getElem hw), ok_bind]
  unfold mkF
  rw [List.getD_eq_getElem?_getD, ← c.wks, List.getElem?_map, List.getElem?_eq_getElem hw]
  rfl
theorem stp_enm {all : List Int} : ∀ (l pre : List Int), all = pre ++ l → (enm (pre.length : Int) l).map (fun x : T2 Int Int => (⟨x.b, tk rs (mkF mk x.b) ((all.map (mkF mk)).take x.a.toNat)⟩ : Stp)) = stp rs (mkF mk) (pre.map (mkF mk)) l
  | [], pre, _ => rfl
  | w :: l, pre, e => by
    have h1 := stp_enm (all := all) l (pre ++ [w]) (by rw [e]; simp)
    show (⟨w, tk rs (mkF mk w) ((all.map (mkF mk)).take (pre.length : Int).toNat)⟩ : Stp) :: (enm ((pre.length : Int) + 1) l).map _ = _ :: _
    have h2 : (all.map (mkF mk)).take (pre.length : Int).toNat = pre.map (mkF mk) := by
      rw [Int.toNat_natCast, e, List.map_append, List.take_append_of_le_length (by simp), List.take_of_length_le (by simp)]
    rw [h2]
    congr 1
    rw [List.map_append] at h1
    rw [← show stp rs (mkF mk) (pre.map (mkF mk) ++ [w].map (mkF mk)) l = stp rs (mkF mk) (pre.map (mkF mk) ++ [mkF mk w]) l from rfl, ← h1]
    congr 2
    simp
omit c in
theorem mem_enm {α : Type} : ∀ {l : List α} {k : Nat} {x : T2 Int α}, x ∈ enm (k : Int) l → ∃ i : Nat, l[i]? = some x.b ∧ x.a = ((k + i : Nat) : Int)
  | [], _, _, h => by cases h
  | y :: l, k, x, h => by
    rcases List.mem_cons.mp h with rfl | h
    · exact ⟨0, rfl, rfl⟩
    · rw [show (k : Int) + 1 = ((k + 1 : Nat) : Int) by omega] at h
      obtain ⟨i, h1, h2⟩ := mem_enm h
      exact ⟨i + 1, by rw [List.getElem?_cons_succ]; exact h1, by rw [h2]; congr 1; omega⟩
omit c in
theorem enm_len {α : Type} : ∀ (l : List α) (k : Int), (enm k l).length = l.length
  | [], _ => rfl
  | _ :: l, k => congrArg (· + 1) (enm_len l _)
theorem walked_ok {l : List Int} (h : InR n l) (hl : l.length ≤ 1000) : n_walked ⟨ws⟩ ⟨rs⟩ l = .ok (stp rs (mkF mk) [] l) := by
  unfold n_walked
  rw [ok_bind, lcN_ok (g := mkF mk) (fun w hw => by rw [ok_bind, make_ok c (h w hw)]) (by omega), ok_bind]
  rw [lcN_ok (g := fun x : T2 Int Int => (⟨x.b, tk rs (mkF mk x.b) ((l.map (mkF mk)).take x.a.toNat)⟩ : Stp)) (fun x hx => ?_) (by rw [enm_len]; omega)]
  · exact congrArg Rs.ok (stp_enm c l [] rfl)
  · obtain ⟨i, h1, h2⟩ := mem_enm (k := 0) hx
    have h3 : x.a = (i : Int) := by rw [h2]; omega
    have h4 : (l.map (mkF mk))[i]? = some (mkF mk x.b) := by rw [List.getElem?_map, h1]; rfl
    rw [ok_bind, h3, idx_nat h4, ok_bind, cut_take (Int.natCast_nonneg i), takes_ok c.rls (mkF_mem c.len c.mks (h _ (List.mem_of_getElem? h1))) (fun m hm => by
      obtain ⟨z, hz, rfl⟩ := List.mem_map.mp (List.mem_of_mem_take hm)
      exact mkF_mem c.len c.mks (h z hz)) (by rw [List.length_take, List.length_map]; omega), ok_bind]
end
theorem first_loop {f : Unit → Stp → Rs (LC Unit Int)} (hf : ∀ x, f () x = if x.b = true then Rs.ok (LC.rt (x.a : Int)) else .ok (.nx ())) {l : List Stp} (h : l ≠ []) : (loopRs f l ()).bindL (fun (_ : Unit) => (N.idx l (0 : Int)).bind fun g_ => Rs.ok g_.a) (fun v => v) = .ok (first l) := by
  rw [loopRs_find (c := fun x : Stp => if x.b = true then some x.a else none) l fun x _ => by rw [hf]; cases x.b <;> rfl]
  have e : l.findSome? (fun x : Stp => if x.b = true then some x.a else none) = (l.find? (·.b)).map (·.a) := by
    clear h
    induction l with
    | nil => rfl
    | cons x l ih =>
      rw [List.findSome?_cons, List.find?_cons]
      cases hx : x.b with
      | true => rfl
      | false => exact ih
  rw [e]
  unfold first
  cases l.find? (·.b) with
  | some x => rfl
  | none =>
    cases l with
    | nil => exact absurd rfl h
    | cons x l =>
      show (N.idx (x :: l) 0).bind _ = _
      rw [idx_cons0]; rfl
theorem lfirst_ok {l : List Stp} (h : l ≠ []) : n_l_first l = .ok (first l) := by
  unfold n_l_first
  exact first_loop (fun x => rfl) h
theorem first_ok {l : List Stp} (h : l ≠ []) : n_first_taken l = .ok (first l) := by
  unfold n_first_taken
  exact first_loop (fun x => rfl) h
def Rk (n : Nat) (r : List Int) : Prop := r.Perm (N.rng 0 n)
theorem Rk.mem {n : Nat} {r : List Int} (h : Rk n r) {x : Int} : x ∈ r ↔ 0 ≤ x ∧ x < n := by
  rw [List.Perm.mem_iff h, rng_mem]; omega
theorem rng_nodup (n : Nat) : (N.rng 0 n).Nodup := by
  unfold N.rng
  refine List.pairwise_map.mpr (List.nodup_range.imp fun {a b} h e => h (by omega))
theorem Rk.nodup {n : Nat} {r : List Int} (h : Rk n r) : r.Nodup := (List.Perm.nodup_iff h).mpr (rng_nodup n)
theorem Rk.len {n : Nat} {r : List Int} (h : Rk n r) : r.length = n := by rw [List.Perm.length_eq h, N.rng_len]
theorem rng_sorted (n : Nat) : Kd.sortI (N.rng 0 n) = N.rng 0 n := by
  refine Kd.sorted_eq (Kd.sortI_sorted _) ?_ (Kd.sortI_perm _)
  unfold N.rng
  exact List.pairwise_map.mpr (List.pairwise_lt_range.imp fun {a b} h => by omega)
theorem rk_iff {n : Nat} {r : List Int} : Kd.sortI r = N.rng 0 n ↔ Rk n r := by
  constructor
  · intro e
    have := Kd.sortI_perm r
    rw [e] at this
    exact this.symm
  · intro h
    rw [Kd.sortI_eq h, rng_sorted]
theorem crew_len {ws : List CrW} (h : ws.length ≤ 6) : ((calm (n_Crew_len ⟨ws⟩)).bind fun n => if smallI 1000000000 n = true ∧ 0 ≤ n then Rs.ok n else .stuck) = .ok ((ws.length : Nat) : Int) := by
  unfold n_Crew_len
  rw [calm_ok, ok_bind]
  exact if_pos ⟨small_of (by show _ ≤ ((ws.length : Nat) : Int); omega) (by show ((ws.length : Nat) : Int) ≤ _; omega), Int.natCast_nonneg _⟩
theorem rank_dec {ws : List CrW} (h : ws.length ≤ 6) {r : List Int} : n_check_ranking ⟨ws⟩ r = if Kd.sortI r = N.rng 0 ws.length then .ok () else .exc "BadRanking" none := by
  unfold n_check_ranking
  rw [crew_len h, ok_bind, lrg_ok (by omega), ok_bind, ok_bind, ok_bind]
  by_cases c : Kd.sortI r = N.rng 0 ws.length
  · rw [if_pos c, decide_eq_true c]; rfl
  · rw [if_neg c, decide_eq_false c]; rfl
def YdOk (n : Nat) (y : Tu Int) : Prop := y.l ≠ [] ∧ y.l.Pairwise (· < ·) ∧ ∀ x ∈ y.l, 0 ≤ x ∧ x < n
instance (n : Nat) (y : Tu Int) : Decidable (YdOk n y) := inferInstanceAs (Decidable (_ ∧ _ ∧ _))
theorem asc_len : ∀ (l : List Int) (lo hi : Int), lo ≤ hi → l.Pairwise (· < ·) → (∀ x ∈ l, lo ≤ x ∧ x < hi) → (l.length : Int) ≤ hi - lo
  | [], lo, hi, h, _, _ => by simp; omega
  | x :: l, lo, hi, h, hp, hm => by
    have hx := hm x List.mem_cons_self
    have := asc_len l (x + 1) hi (by omega) (List.pairwise_cons.mp hp).2 fun y hy => ⟨by have := (List.pairwise_cons.mp hp).1 y hy; omega, (hm y (List.mem_cons_of_mem _ hy)).2⟩
    rw [List.length_cons]
    omega
theorem yd_len {n : Nat} {y : Tu Int} (h : YdOk n y) : y.l.length ≤ n := by
  have := asc_len y.l 0 n (by omega) h.2.1 h.2.2
  omega
theorem setI_asc {l : List Int} : l = Kd.setI l ↔ l.Pairwise (· < ·) := by
  constructor
  · intro e; rw [e]; exact setI_lt l
  · intro h; exact asc_uniq h (setI_lt l) fun x => Kd.mem_setI.symm
theorem yard1_ok {ws : List CrW} (hw : ws.length ≤ 6) {y : Tu Int} (hl : y.l.length < 64) : n_check_yards_1 ⟨ws⟩ () y = if decide (YdOk ws.length y) = true then .ok () else .exc "BadYard" none := by
  unfold n_check_yards_1
  rw [ok_bind]
  by_cases c1 : y.l = []
  · have : ¬ YdOk ws.length y := fun h => h.1 c1
    rw [decide_eq_false this, c1]
    rfl
  have e1 : (!(!y.l.isEmpty)) = false := by cases h : y.l with
    | nil => exact absurd h c1
    | cons => rfl
  rw [e1, if_neg Bool.false_ne_true, show sortSetN y.l = .ok (Kd.setI y.l) from if_pos hl, ok_bind, ok_bind]
  by_cases c2 : y.l.Pairwise (· < ·)
  case neg =>
    have : ¬ YdOk ws.length y := fun h => c2 h.2.1
    rw [decide_eq_false this, decide_eq_false fun e => c2 (setI_asc.mp e)]
    rfl
  rw [decide_eq_true (setI_asc.mpr c2), ok_bind]
  show ((((N.idx y.l 0).bind _).bind _).bind _ |>.bind _) = _
  obtain ⟨a, r, e⟩ : ∃ a r, y.l = a :: r := by
    cases h : y.l with
    | nil => exact absurd h c1
    | cons a r => exact ⟨a, r, rfl⟩
  obtain ⟨p, b, e'⟩ : ∃ p b, y.l = p ++ [b] := ⟨y.l.dropLast, y.l.getLast c1, (List.dropLast_concat_getLast c1).symm⟩
  have h0 : N.idx y.l 0 = .ok a := by rw [e]; exact idx_cons0
  have h1 : N.idx y.l (-1) = .ok b := idx_last (by rw [e']; simp)
  rw [h0, ok_bind, ok_bind]
  have ha : ∀ x ∈ y.l, a ≤ x := fun x hx => by
    rw [e] at hx c2
    rcases List.mem_cons.mp hx with rfl | hx
    · exact Int.le_refl _
    · exact Int.le_of_lt ((List.pairwise_cons.mp c2).1 x hx)
  have hb : ∀ x ∈ y.l, x ≤ b := fun x hx => by
    rw [e'] at hx c2
    rcases List.mem_append.mp hx with hx | hx
    · exact Int.le_of_lt ((List.pairwise_append.mp c2).2.2 x hx b (by simp))
    · rw [List.mem_singleton.mp hx]; exact Int.le_refl _
  have ma : a ∈ y.l := by rw [e]; exact List.mem_cons_self
  have mb : b ∈ y.l := by rw [e']; simp
  by_cases c3 : a < 0
  · have : ¬ YdOk ws.length y := fun h => by have := (h.2.2 a ma).1; omega
    rw [decide_eq_false this, decide_eq_true c3]
    rfl
  rw [decide_eq_false c3, ok_bind]
  show (((N.idx y.l (-1)).bind _).bind _ |>.bind _) = _
  rw [h1, ok_bind, crew_len hw, ok_bind, ok_bind, ok_bind]
  by_cases c4 : ((ws.length : Nat) : Int) ≤ b
  · have : ¬ YdOk ws.length y := fun h => by have := (h.2.2 b mb).2; omega
    rw [decide_eq_false this, decide_eq_true c4]
    rfl
  · have : YdOk ws.length y := ⟨c1, c2, fun x hx => ⟨by have := ha x hx; omega, by have := hb x hx; omega⟩⟩
    rw [decide_eq_true this, decide_eq_false c4]
    rfl
theorem yards_ok {ws : List CrW} (hw : ws.length ≤ 6) {ys : List (Tu Int)} (hl : ∀ y ∈ ys, y.l.length < 64) : n_check_yards ⟨ws⟩ ys = if ys.all (fun y => decide (YdOk ws.length y)) = true then .ok () else .exc "BadYard" none := by
  unfold n_check_yards
  rw [foldRs_check (p := fun y => decide (YdOk ws.length y)) ys fun y hy => yard1_ok hw (hl y hy)]
  cases ys.all (fun y => decide (YdOk ws.length y)) <;> rfl
theorem present_ok {r : List Int} {y : Tu Int} (hl : r.length ≤ 1000) : n_present r y = .ok (lin r y.l) := by
  unfold n_present
  rw [ok_bind, lcN_filter (p := fun x : Int => decide (x ∈ y.l)) (g := fun x => x) (fun _ _ => rfl) (fun _ _ _ => rfl) (by omega), List.map_id']
  rfl
theorem lin_in {n : Nat} {r : List Int} (h : Rk n r) (y : List Int) : InR n (lin r y) := fun x hx => h.mem.mp (lin_mem.mp hx).1
theorem lin_ne {n : Nat} {r : List Int} (h : Rk n r) {y : Tu Int} (hy : YdOk n y) : lin r y.l ≠ [] := by
  obtain ⟨x, hx⟩ := List.exists_mem_of_ne_nil _ hy.1
  exact List.ne_nil_of_mem (lin_mem.mpr ⟨h.mem.mpr (hy.2.2 x hx), hx⟩)
theorem lin_len {n : Nat} {r : List Int} (h : Rk n r) (y : List Int) : (lin r y).length ≤ n := by
  have := List.length_filter_le (fun x => decide (x ∈ y)) r
  unfold lin
  have := h.len
  omega
def hold (rs : List Rul) (mk : List Str) (r : List Int) (y : Tu Int) : Int := first (stp rs (mkF mk) [] (lin r y.l))
section
variable {n : Nat} {mk : List Str} {ws : List CrW} {rs : List Rul} (c : Cw n mk ws rs)
include c
theorem rank_ok {r : List Int} (h : Rk n r) : n_check_ranking ⟨ws⟩ r = .ok () := by
  rw [rank_dec (by rw [c.wl]; exact c.n6), c.wl, if_pos (rk_iff.mpr h)]
theorem rank_bad {r : List Int} (h : ¬ Rk n r) : n_check_ranking ⟨ws⟩ r = .exc "BadRanking" none := by
  rw [rank_dec (by rw [c.wl]; exact c.n6), c.wl, if_neg fun e => h (rk_iff.mp e)]
theorem yds_ok {ys : List (Tu Int)} (h : ∀ y ∈ ys, YdOk n y) : n_check_yards ⟨ws⟩ ys = .ok () := by
  have := c.n6
  rw [yards_ok (by rw [c.wl]; exact c.n6) fun y hy => by have := yd_len (h y hy); omega, if_pos (List.all_eq_true.mpr fun y hy => by rw [c.wl]; exact decide_eq_true (h y hy))]
theorem yds_bad {ys : List (Tu Int)} (hl : ∀ y ∈ ys, y.l.length < 64) (h : ∃ y ∈ ys, ¬ YdOk n y) : n_check_yards ⟨ws⟩ ys = .exc "BadYard" none := by
  obtain ⟨y, hy, hn⟩ := h
  rw [yards_ok (by rw [c.wl]; exact c.n6) hl, if_neg fun e => hn (by have := of_decide_eq_true (List.all_eq_true.mp e y hy); rwa [c.wl] at this)]
theorem walk_ok {r : List Int} {y : Tu Int} (h : Rk n r) (hy : YdOk n y) : n_walk ⟨ws⟩ ⟨rs⟩ r y = .ok (stp rs (mkF mk) [] (lin r y.l)) := by
  have hl := lin_len h y.l
  have := c.n6
  have := h.len
  unfold n_walk
  rw [rank_ok c h, ok_bind, yds_ok c (ys := [y]) (fun z hz => by rw [List.mem_singleton.mp hz]; exact hy), ok_bind, present_ok (by omega), ok_bind, walked_ok c (lin_in h y.l) (by omega)]
theorem holder_ok {r : List Int} {y : Tu Int} (h : Rk n r) (hy : YdOk n y) : n_holder ⟨ws⟩ ⟨rs⟩ r y = .ok (hold rs mk r y) := by
  unfold n_holder
  rw [walk_ok c h hy, ok_bind, first_ok (stp_ne (lin_ne h hy))]
  rfl
theorem holders_ok {r : List Int} {ys : List (Tu Int)} (h : Rk n r) (hy : ∀ y ∈ ys, YdOk n y) (hl : ys.length ≤ 1000) : n_holders ⟨ws⟩ ⟨rs⟩ r ys = .ok (ys.map (hold rs mk r)) := by
  have := c.n6
  have := h.len
  unfold n_holders
  rw [rank_ok c h, ok_bind, yds_ok c hy, ok_bind, ok_bind, lcN_ok (g := hold rs mk r) (fun y hm => ?_) (by omega)]
  have hl := lin_len h y.l
  rw [present_ok (by omega), ok_bind, walked_ok c (lin_in h y.l) (by omega), ok_bind, first_ok (stp_ne (lin_ne h (hy y hm)))]
  rfl
end
end G
end
section
set_option Elab.async false
set_option linter.all false
set_option maxRecDepth 100000
set_option maxHeartbeats 0
namespace G
open PySem L2 M N Yd
theorem popN_zero {α : Type} (x : α) (l : List α) : popN (x :: l) (0 : Int) = .ok (x, l) := by
  have e : seqIndex? (0 : Int) (x :: l).length = some 0 := by
    unfold seqIndex?
    simp
  unfold popN
  rw [e]
  dsimp only
  rw [List.getElem?_cons_zero]
  exact if_pos (by omega)
theorem rearr_loop {lu : List Int} : ∀ (s rest acc : List Int), rest.length = (s.filter fun x => decide (x ∈ lu)).length → acc.length + s.length ≤ 1000 → ∃ q, foldRs (n_l_rearranged_1 lu) s (rest, acc) = .ok (q, acc ++ rr (fun x => decide (x ∈ lu)) s rest)
  | [], rest, acc, _, _ => ⟨rest, by show Rs.ok (rest, acc) = .ok (rest, acc ++ []); rw [List.append_nil]⟩
  | x :: s, rest, acc, h, hl => by
    rw [List.length_cons] at hl
    by_cases c : x ∈ lu
    · have cd : decide (x ∈ lu) = true := decide_eq_true c
      rw [List.filter_cons_of_pos (p := fun x => decide (x ∈ lu)) cd] at h
      cases rest with
      | nil => cases h
      | cons z r =>
        obtain ⟨q, e⟩ := rearr_loop s r (acc ++ [z]) (Nat.succ.inj h) (by rw [List.length_append]; simp only [List.length_cons, List.length_nil]; omega)
        refine ⟨q, ?_⟩
        have e1 : n_l_rearranged_1 lu (z :: r, acc) x = .ok (r, acc ++ [z]) := by
          unfold n_l_rearranged_1
          dsimp only
          rw [if_pos cd, popN_zero, ok_bind]
          dsimp only
          rw [N.app_ok (by omega), ok_bind]
        have e2 : rr (fun x => decide (x ∈ lu)) (x :: s) (z :: r) = z :: rr (fun x => decide (x ∈ lu)) s r := by
          show (if decide (x ∈ lu) = true then _ else _) = _
          rw [if_pos cd]
        rw [foldRs_cons, e1, ok_bind, e2]
        refine e.trans ?_
        simp
    · have cd : decide (x ∈ lu) = false := decide_eq_false c
      rw [List.filter_cons_of_neg (p := fun x => decide (x ∈ lu)) (by rw [cd]; decide)] at h
      obtain ⟨q, e⟩ := rearr_loop s rest (acc ++ [x]) h (by rw [List.length_append]; simp only [List.length_cons, List.length_nil]; omega)
      refine ⟨q, ?_⟩
      have e1 : n_l_rearranged_1 lu (rest, acc) x = .ok (rest, acc ++ [x]) := by
        unfold n_l_rearranged_1
        dsimp only
        rw [if_neg (by rw [cd]; decide), ok_bind, N.app_ok (by omega), ok_bind]
      have e2 : rr (fun x => decide (x ∈ lu)) (x :: s) rest = x :: rr (fun x => decide (x ∈ lu)) s rest := by
        show (if decide (x ∈ lu) = true then _ else _) = _
        rw [if_neg (by rw [cd]; decide)]
      rw [foldRs_cons, e1, ok_bind, e2]
      refine e.trans ?_
      simp
/-- rearranged: a ranking with the same lineup -/
theorem rearr_ok {n : Nat} {r s : List Int} (h : Rk n r) (hs : Rk n s) (hn : n ≤ 6) (y : Tu Int) : ∃ q, n_l_rearranged s (lin r y.l) = .ok q ∧ Rk n q ∧ lin q y.l = lin r y.l := by
  have hp : (s.filter fun x => decide (x ∈ lin r y.l)).Perm (lin r y.l) := by
    have e1 : (s.filter fun x => decide (x ∈ lin r y.l)) = s.filter fun x => decide (x ∈ y.l) := List.filter_congr fun x hx => by
      rw [decide_eq_decide]
      exact ⟨fun h1 => (lin_mem.mp h1).2, fun h1 => lin_mem.mpr ⟨h.mem.mpr (hs.mem.mp hx), h1⟩⟩
    rw [e1]
    exact (List.Perm.trans hs (List.Perm.symm h)).filter _
  have hl := hs.len
  obtain ⟨q, e⟩ := rearr_loop (lu := lin r y.l) s (lin r y.l) [] hp.length_eq.symm (by rw [List.length_nil]; omega)
  have hq : Rk n (rr (fun x => decide (x ∈ lin r y.l)) s (lin r y.l)) := (rr_perm hp.symm).trans hs
  refine ⟨rr (fun x => decide (x ∈ lin r y.l)) s (lin r y.l), ?_, hq, ?_⟩
  · unfold n_l_rearranged
    rw [ok_bind, ok_bind, e, ok_bind]
    rfl
  · have := (rr_all (p := fun x => decide (x ∈ lin r y.l)) s (lin r y.l) hp.length_eq.symm fun x hx => decide_eq_true hx).1
    refine Eq.trans ?_ this
    unfold lin
    exact List.filter_congr fun x hx => by
      rw [decide_eq_decide]
      exact ⟨fun h1 => lin_mem.mpr ⟨h.mem.mpr (hq.mem.mp hx), h1⟩, fun h1 => (lin_mem.mp h1).2⟩
def tog (y : Tu Int) (w : Int) : Tu Int := if w ∈ y.l then ⟨y.l.filter fun x => !decide (x = w)⟩ else ⟨Kd.sortI (y.l ++ [w])⟩
theorem tog_ok {y : Tu Int} {w : Int} (hl : y.l.length ≤ 1000) : n_l_toggled y w = .ok (tog y w) := by
  unfold n_l_toggled tog
  by_cases c : w ∈ y.l
  · rw [if_pos (decide_eq_true c), if_pos c, ok_bind, lcN_filter (p := fun x : Int => !decide (x = w)) (g := fun x => x) (fun _ _ => rfl) (fun _ _ _ => rfl) (by omega), ok_bind, List.map_id']
  · rw [if_neg (by rw [decide_eq_false c]; decide), if_neg c, N.cat_ok (by simp; omega), ok_bind, ok_bind]
theorem tog_mem {y : Tu Int} {o x : Int} (hx : x ≠ o) : x ∈ (tog y o).l ↔ x ∈ y.l := by
  unfold tog
  by_cases c : o ∈ y.l
  · rw [if_pos c]
    show x ∈ y.l.filter _ ↔ _
    rw [List.mem_filter, decide_eq_false hx]
    simp
  · rw [if_neg c]
    show x ∈ Kd.sortI _ ↔ _
    rw [Kd.mem_sortI, List.mem_append, List.mem_singleton]
    exact ⟨fun h => h.resolve_right hx, .inl⟩
theorem tog_yd {n : Nat} {y : Tu Int} {o z : Int} (h : YdOk n y) (hz : z ∈ y.l) (hn : z ≠ o) (ho : 0 ≤ o ∧ o < n) : YdOk n (tog y o) := by
  refine ⟨List.ne_nil_of_mem ((tog_mem hn).mpr hz), ?_, fun x hx => ?_⟩
  · unfold tog
    by_cases c : o ∈ y.l
    · rw [if_pos c]; exact h.2.1.filter _
    · rw [if_neg c]
      have n1 : (y.l ++ [o]).Nodup := List.nodup_append.mpr ⟨h.2.1.imp Int.ne_of_lt, List.pairwise_singleton _ _, fun a ha b hb e => c (by rw [← List.mem_singleton.mp hb, ← e]; exact ha)⟩
      have n2 : (Kd.sortI (y.l ++ [o])).Nodup := (Kd.sortI_perm _).nodup_iff.mpr n1
      exact (List.pairwise_and_iff.mpr ⟨Kd.sortI_sorted _, n2⟩).imp fun ⟨a, b⟩ => by omega
  · by_cases e : x = o
    · rw [e]; exact ho
    · exact h.2.2 x ((tog_mem e).mp hx)
theorem hold_mem {rs : List Rul} {mk : List Str} {n : Nat} {r : List Int} {y : Tu Int} (h : Rk n r) (hy : YdOk n y) : hold rs mk r y ∈ lin r y.l := by
  have := first_of (stp_ne (rs := rs) (mk := mkF mk) (seen := []) (lin_ne h hy))
  obtain ⟨x, hx, e⟩ := List.mem_map.mp this
  unfold hold
  rw [← e]
  exact stp_mem hx
theorem hold_stays {rs : List Rul} {mk : List Str} {n : Nat} {r : List Int} {y : Tu Int} {A B : List Int} {w o : Int} (h : Rk n r) (hy : YdOk n y) (hr : r = A ++ w :: B) (hw : hold rs mk r y = w) (ht : (⟨w, true⟩ : Stp) ∈ stp rs (mkF mk) [] (lin r y.l)) (ho : o ∈ B) : YdOk n (tog y o) ∧ hold rs mk r (tog y o) = w := by
  have nd := h.nodup
  have hwy : w ∈ y.l := by
    have := hold_mem (rs := rs) (mk := mk) h hy
    rw [hw] at this
    exact (lin_mem.mp this).2
  have oin : 0 ≤ o ∧ o < n := h.mem.mp (by rw [hr]; simp [ho])
  rw [hr] at nd
  obtain ⟨nA, nB, nAB⟩ := List.nodup_append.mp nd
  obtain ⟨wB, nB⟩ := List.nodup_cons.mp nB
  have wo : w ≠ o := fun e => wB (by rw [e]; exact ho)
  refine ⟨tog_yd hy hwy wo oin, ?_⟩
  unfold hold at hw ⊢
  rw [hr] at hw ht ⊢
  refine stays hwy ((tog_mem wo).mpr hwy) (fun x hx => ?_) (fun hx => nAB w hx w List.mem_cons_self rfl) wB hw ht
  exact (tog_mem (nAB x hx o (List.mem_cons_of_mem _ ho))).symm
theorem same_ok (s : List Stp) : n_l_same_steps s s = .ok true := by
  unfold n_l_same_steps
  rw [decide_eq_true rfl, if_neg (by decide), loopRs_all _ fun x _ => rfl]
  rfl
theorem is_worker_ok (a b : Int) : n_l_is_worker a b = .ok (decide (a = b)) := by
  unfold n_l_is_worker
  rw [Bool.not_false, Bool.true_and, Bool.true_and]
theorem idx_split {r : List Int} {w : Int} (hm : w ∈ r) (nd : r.Nodup) : ∃ A B, r = A ++ w :: B ∧ idxLN r w = .ok ((A.length : Nat) : Int) := by
  obtain ⟨A, B, hr⟩ := List.append_of_mem hm
  refine ⟨A, B, hr, ?_⟩
  have hA : ∀ x ∈ A, (x == w) = false := fun x hx => by
    rw [hr] at nd
    exact beq_eq_false_iff_ne.mpr ((List.nodup_append.mp nd).2.2 x hx w List.mem_cons_self)
  have e : idxO r w = some A.length := by
    unfold idxO
    rw [hr, List.findIdx?_append, List.findIdx?_eq_none_iff.mpr hA, List.findIdx?_cons, beq_self_eq_true]
    simp
  unfold idxLN
  rw [e]
section
variable {n : Nat} {mk : List Str} {ws : List CrW} {rs : List Rul} (c : Cw n mk ws rs)
include c
theorem yard_fits_ok {r s : List Int} (h : Rk n r) (hs : Rk n s) {y : Tu Int} (hy : YdOk n y) : n_l_yard_fits ⟨ws⟩ ⟨rs⟩ mk rs r s y = .ok true := by
  have n6 := c.n6
  have rl := h.len
  have ll := lin_len h y.l
  have yl := yd_len hy
  unfold n_l_yard_fits
  have e1 : ((Rs.ok r).bind fun xs => calm (lcN (fun (at_ : Int) => Rs.ok (decide (at_ ∈ y.l))) (fun (at_ : Int) => Rs.ok at_) xs [])) = .ok (lin r y.l) := by
    rw [ok_bind, lcN_filter (p := fun x : Int => decide (x ∈ y.l)) (g := fun x => x) (fun _ _ => rfl) (fun _ _ _ => rfl) (by omega), List.map_id']
    rfl
  rw [e1, ok_bind, lsteps_ok c (lin_in h y.l) (by omega), ok_bind, lfirst_ok (stp_ne (lin_ne h hy)), ok_bind, ok_bind, present_ok (by omega), ok_bind, ok_bind, ok_bind, decide_eq_true rfl, Bool.not_true, if_neg Bool.false_ne_true]
  rw [walk_ok c h hy, ok_bind, same_ok, ok_bind, ok_bind, ok_bind, Bool.not_true, if_neg Bool.false_ne_true]
  show ((((n_holder ⟨ws⟩ ⟨rs⟩ r y).bind fun g_5 => n_l_is_worker g_5 (hold rs mk r y)).bind fun g_6 => Rs.ok g_6).bind fun b_4 => Rs.ok !b_4).bind _ = _
  rw [holder_ok c h hy, ok_bind, is_worker_ok, ok_bind, ok_bind, ok_bind, decide_eq_true rfl, Bool.not_true, if_neg Bool.false_ne_true]
  obtain ⟨q, eq, hq, lq⟩ := rearr_ok h hs n6 y
  have hqy : hold rs mk q y = hold rs mk r y := by unfold hold; rw [lq]
  rw [eq, ok_bind, holder_ok c hq hy, hqy, ok_bind]
  show ((((n_l_is_worker (hold rs mk r y) (hold rs mk r y)).bind fun g_8 => Rs.ok g_8).bind fun b_6 => Rs.ok !b_6).bind _) = _
  rw [is_worker_ok, ok_bind, ok_bind, ok_bind, decide_eq_true rfl, Bool.not_true, if_neg Bool.false_ne_true]
  show (if (decide ((⟨hold rs mk r y, true⟩ : T2 Int Bool) ∈ stp rs (mkF mk) [] (lin r y.l))) = true then ((((idxLN r (hold rs mk r y)).bind fun g_9 => Rs.ok (g_9 + (1 : Int))).bind fun g_10 => Rs.ok (cut r (some g_10) none)).bind fun xs => loopRs (n_l_yard_fits_1 ⟨ws⟩ ⟨rs⟩ y (hold rs mk r y) r) xs ()).bindL _ _ else _) = _
  by_cases ct : (⟨hold rs mk r y, true⟩ : T2 Int Bool) ∈ stp rs (mkF mk) [] (lin r y.l)
  · rw [if_pos (decide_eq_true ct)]
    obtain ⟨A, B, hr, ei⟩ := idx_split (lin_mem.mp (hold_mem (rs := rs) (mk := mk) h hy)).1 h.nodup
    have ed : cut r (some (((A.length : Nat) : Int) + 1)) none = B := by
      rw [N.cut_drop (by omega), show (((A.length : Nat) : Int) + 1).toNat = A.length + 1 by omega]
      conv => lhs; rw [hr]
      rw [List.drop_append, List.drop_eq_nil_of_le (by omega), List.nil_append, show A.length + 1 - A.length = 1 by omega]
      rfl
    rw [ei, ok_bind, ok_bind, ed, ok_bind, loopRs_all B fun o ho => ?_]
    · show Rs.ok (decide (r = r)) = _
      rw [decide_eq_true rfl]
    · obtain ⟨h1, h2⟩ := hold_stays h hy hr rfl ct ho
      unfold n_l_yard_fits_1
      rw [tog_ok (by omega), ok_bind, holder_ok c h h1, ok_bind, h2, is_worker_ok, ok_bind, ok_bind, ok_bind, decide_eq_true rfl]
      rfl
  · rw [if_neg (by rw [decide_eq_false ct]; decide), decide_eq_true rfl]
end
end G
end
section
set_option Elab.async false
set_option linter.all false
set_option maxRecDepth 100000
set_option maxHeartbeats 0
namespace G
open PySem L2 M N Yd
theorem lput_last {α : Type} (l : List α) (x v : α) : lput (l ++ [x]) (-1) v = .ok (l ++ [v]) := by
  have e : L2.ixN (l ++ [x]).length (-1) = some l.length := by
    unfold L2.ixN
    rw [if_neg (by decide), List.length_append]
    rw [if_pos (by simp; omega)]
    congr 1
    simp; omega
  unfold lput
  rw [e]
  simp
theorem popE_snoc {α : Type} (l : List α) (x : α) : popE (l ++ [x]) = .ok (x, l) := by
  unfold popE
  rw [List.getLast?_concat]
  simp
theorem popN_get {α : Type} {l : List α} {i : Int} (h0 : 0 ≤ i) (h1 : i < l.length) (hl : l.length ≤ 1000) : ∃ a, popN l i = .ok (a, l.eraseIdx i.toNat) ∧ l[i.toNat]? = some a := by
  have hk : i.toNat < l.length := by omega
  refine ⟨l[i.toNat], ?_, List.getElem?_eq_getElem hk⟩
  have e : seqIndex? i l.length = some i.toNat := by
    unfold seqIndex?
    simp [h0, h1, show ¬ i < 0 by omega]
  unfold popN
  rw [e]
  dsimp only
  rw [List.getElem?_eq_getElem hk]
  exact if_pos (by omega)
theorem gets_bad_ranking {n : Nat} {r s : List Int} (h : Rk n r) (h1 : 1 ≤ n) (h6 : n ≤ 6) : Gets (n_l_bad_ranking s r) fun g => ¬ Rk n g.1 := by
  have rl := h.len
  have lr : lenI r = (n : Int) := by rw [lenI_eq, rl]
  unfold n_l_bad_ranking
  rw [ok_bind, lr]
  refine gets_bind (gets_draw (by omega)) fun p hp => ?_
  refine gets_bind (gets_draw (by decide)) fun q _ => ?_
  rw [N.cut_take hp.1, N.cut_drop (show 0 ≤ p.1 + 1 by omega), show (p.1 + 1).toNat = p.1.toNat + 1 by omega]
  have tl : (r.take p.1.toNat).length = p.1.toNat := by rw [List.length_take]; omega
  have dl : (r.drop (p.1.toNat + 1)).length = n - (p.1.toNat + 1) := by rw [List.length_drop, rl]
  refine gets_ifP (fun _ => ?_) fun _ => gets_ifP (fun _ => ?_) fun _ => gets_ifP (fun _ => ?_) fun _ => gets_ifP (fun _ => ?_) fun _ => ?_
  · rw [N.cat_ok (by omega), ok_bind]
    refine gets_ok fun k => ?_
    have := k.len
    rw [List.length_append] at this; omega
  · obtain ⟨a, e, _⟩ := N.idx_mem (xs := r) hp.1 (by omega)
    rw [e, ok_bind, ok_bind, N.cat_ok (by simp; omega), ok_bind]
    refine gets_ok fun k => ?_
    have := k.len
    rw [List.length_append] at this; simp at this; omega
  · rw [N.cat_ok (by simp; omega), ok_bind, N.cat_ok (by simp; omega), ok_bind]
    refine gets_ok fun k => ?_
    have := (k.mem (x := (n : Int))).mp (by simp)
    omega
  · rw [N.cat_ok (by simp; omega), ok_bind, N.cat_ok (by simp; omega), ok_bind]
    refine gets_ok fun k => ?_
    have := (k.mem (x := -1)).mp (by simp)
    omega
  · rw [N.cat_ok (by simp; omega), ok_bind]
    refine gets_ok fun k => ?_
    have := k.len
    rw [List.length_append] at this; simp at this; omega
theorem gets_bad_spot {n : Nat} {s : List Int} (h1 : 1 ≤ n) : Gets (n_l_bad_spot s (n : Int)) fun g => ¬ YdOk n g.1 ∧ g.1.l.length < 64 := by
  unfold n_l_bad_spot
  refine gets_bind (gets_draw (by omega)) fun w hw => ?_
  rw [ok_bind]
  refine gets_bind (gets_pick (by decide) (by simp)) fun g hg => gets_ok ?_
  simp only [List.mem_cons, List.not_mem_nil, or_false] at hg
  show ¬ YdOk n g.1 ∧ g.1.l.length < 64
  rcases hg with e | e | e | e | e | e | e | e <;> rw [e] <;> refine ⟨fun k => ?_, by simp⟩
  · exact k.1 rfl
  · have := (List.pairwise_cons.mp k.2.1).1 _ List.mem_cons_self
    omega
  · have := (k.2.2 (n : Int) (by simp)).2
    omega
  · have := (k.2.2 (-1) (by simp)).1
    omega
  · have := (k.2.2 (n : Int) (by simp)).2
    omega
  · have := (k.2.2 (-1) (by simp)).1
    omega
  · have := (List.pairwise_cons.mp k.2.1).1 _ List.mem_cons_self
    omega
  · have := (List.pairwise_cons.mp (List.pairwise_cons.mp k.2.1).2).1 _ List.mem_cons_self
    omega
def hnd : Str → Option (List (Str × P)) → Rs Str := hdRs [("BadCrew", false), ("BadLine", false), ("BadName", false), ("BadRanking", true), ("BadScheme", false), ("BadYard", false), ("DuplicateName", false)] (fun c fs => (Rs.ok (("ranking" : Str) : Str)).bind fun told3 =>
Rs.ok told3) (hdRs [("BadCrew", false), ("BadLine", false), ("BadName", false), ("BadRanking", false), ("BadScheme", false), ("BadYard", true), ("DuplicateName", false)] (fun c fs => (Rs.ok (("yard" : Str) : Str)).bind fun told4 =>
Rs.ok told4) (hdRs [("BadCrew", true), ("BadLine", true), ("BadName", true), ("BadRanking", true), ("BadScheme", true), ("BadYard", true), ("DuplicateName", true)] (fun c fs => (Rs.ok (("other" : Str) : Str)).bind fun told5 =>
Rs.ok told5) excRs))
theorem hnd_r : hnd "BadRanking" none = .ok "ranking" := by
  unfold hnd
  rw [hdRs, show look1 ("BadRanking" : Str) [("BadCrew", false), ("BadLine", false), ("BadName", false), ("BadRanking", true), ("BadScheme", false), ("BadYard", false), ("DuplicateName", false)] = some true by kernel_rfl]
  rfl
theorem hnd_y : hnd "BadYard" none = .ok "yard" := by
  unfold hnd
  rw [hdRs, show look1 ("BadYard" : Str) [("BadCrew", false), ("BadLine", false), ("BadName", false), ("BadRanking", true), ("BadScheme", false), ("BadYard", false), ("DuplicateName", false)] = some false by kernel_rfl]
  dsimp only
  rw [hdRs, show look1 ("BadYard" : Str) [("BadCrew", false), ("BadLine", false), ("BadName", false), ("BadRanking", false), ("BadScheme", false), ("BadYard", true), ("DuplicateName", false)] = some true by kernel_rfl]
  rfl
theorem ref_exc {hands : Crew} {plan : Scheme} {r : List Int} {sp : List (Tu Int)} {b : Tu Int} {cl t : Str} {which : Int} (hl : N.idx sp (-1) = .ok b) (h0 : which = 0 → n_walk hands plan r b = .exc cl none) (h1 : which = 1 → n_holder hands plan r b = .exc cl none) (h2 : which ≠ 0 → which ≠ 1 → n_holders hands plan r sp = .exc cl none) (ht : hnd cl none = .ok t) : n_l_refusal hands plan r sp which = .ok t := by
  unfold n_l_refusal
  rw [ok_bind, hl]
  show ((tryRs _ hnd).bind _) = _
  by_cases c0 : which = 0
  · rw [if_pos (decide_eq_true c0), ok_bind, h0 c0]
    show (hnd cl none).bind _ = _
    rw [ht]; rfl
  · rw [if_neg (by rw [decide_eq_false c0]; decide)]
    by_cases c1 : which = 1
    · rw [if_pos (decide_eq_true c1), ok_bind, h1 c1]
      show (hnd cl none).bind _ = _
      rw [ht]; rfl
    · rw [if_neg (by rw [decide_eq_false c1]; decide), h2 c0 c1]
      show (hnd cl none).bind _ = _
      rw [ht]; rfl
section
variable {n : Nat} {mk : List Str} {ws : List CrW} {rs : List Rul} (c : Cw n mk ws rs)
include c
theorem ref_rank {r : List Int} {sp : List (Tu Int)} {b : Tu Int} {which : Int} (hl : N.idx sp (-1) = .ok b) (h : ¬ Rk n r) : n_l_refusal ⟨ws⟩ ⟨rs⟩ r sp which = .ok "ranking" := by
  have hw : ∀ y, n_walk ⟨ws⟩ ⟨rs⟩ r y = .exc "BadRanking" none := fun y => by unfold n_walk; rw [rank_bad c h]; rfl
  refine ref_exc hl (fun _ => hw b) (fun _ => ?_) (fun _ _ => ?_) hnd_r
  · unfold n_holder; rw [hw]; rfl
  · unfold n_holders; rw [rank_bad c h]; rfl
theorem ref_yard {r : List Int} {sp : List (Tu Int)} {b : Tu Int} {which : Int} (hl : N.idx sp (-1) = .ok b) (h : Rk n r) (h64 : ∀ y ∈ sp, y.l.length < 64) (hb : b ∈ sp) (h1 : which = 0 ∨ which = 1 → ¬ YdOk n b) (h2 : ∃ y ∈ sp, ¬ YdOk n y) : n_l_refusal ⟨ws⟩ ⟨rs⟩ r sp which = .ok "yard" := by
  have hw : ¬ YdOk n b → n_walk ⟨ws⟩ ⟨rs⟩ r b = .exc "BadYard" none := fun hn => by
    unfold n_walk
    rw [rank_ok c h, ok_bind, yds_bad c (ys := [b]) (fun y hy => by rw [List.mem_singleton.mp hy]; exact h64 b hb) ⟨b, List.mem_cons_self, hn⟩]; rfl
  refine ref_exc hl (fun e => hw (h1 (.inl e))) (fun e => ?_) (fun _ _ => ?_) hnd_y
  · unfold n_holder; rw [hw (h1 (.inr e))]; rfl
  · unfold n_holders; rw [rank_ok c h, ok_bind, yds_bad c h64 h2]; rfl
theorem ref_none {r : List Int} {sp : List (Tu Int)} {b : Tu Int} {which : Int} (hl : N.idx sp (-1) = .ok b) (h : Rk n r) (hy : ∀ y ∈ sp, YdOk n y) (hb : b ∈ sp) (hsp : sp.length ≤ 1000) : n_l_refusal ⟨ws⟩ ⟨rs⟩ r sp which = .ok "" := by
  unfold n_l_refusal
  rw [ok_bind, hl, ok_bind, ok_bind, walk_ok c h (hy b hb), holder_ok c h (hy b hb), holders_ok c h hy hsp, ok_bind, ok_bind, ok_bind]
  by_cases c0 : which = 0
  · rw [if_pos (decide_eq_true c0)]; rfl
  · rw [if_neg (by rw [decide_eq_false c0]; decide)]
    by_cases c1 : which = 1
    · rw [if_pos (decide_eq_true c1)]; rfl
    · rw [if_neg (by rw [decide_eq_false c1]; decide)]; rfl
theorem refuses_ok {r s : List Int} {sp : List (Tu Int)} (h1 : 1 ≤ n) (h : Rk n r) (hy : ∀ y ∈ sp, YdOk n y) (hne : sp ≠ []) (hsp : sp.length ≤ 100) : Gets (n_l_refuses s ⟨ws⟩ ⟨rs⟩ r sp) fun g => g.1 = true := by
  have n6 := c.n6
  have lr : lenI r = (n : Int) := by rw [lenI_eq, h.len]
  obtain ⟨p, z, e⟩ : ∃ p z, sp = p ++ [z] := ⟨sp.dropLast, sp.getLast hne, (List.dropLast_concat_getLast hne).symm⟩
  have hlz : N.idx sp (-1) = .ok z := idx_last (by rw [e]; simp)
  have mz : z ∈ sp := by rw [e]; simp
  unfold n_l_refuses
  refine gets_bind (gets_bad_ranking h h1 n6) fun bd hbd => ?_
  rw [ok_bind, lr]
  refine gets_bind (gets_bad_spot h1) fun bs hbs => ?_
  have pl : p.length ≤ 100 := by rw [e] at hsp; simp at hsp; omega
  rw [e, lput_last, ok_bind, ok_bind, popE_snoc, ok_bind]
  dsimp only
  refine gets_bind (gets_draw (by rw [lenI_eq]; omega)) fun k hk => ?_
  rw [lenI_eq] at hk
  rw [show insN p k.1 bs.1 = .ok (p.take k.1.toNat ++ bs.1 :: p.drop k.1.toNat) from if_pos (by omega), ok_bind, show (3 : Int) = ((3 : Nat) : Int) from rfl, rng1_nat (by decide), ok_bind, ← e]
  have l64 : ∀ y ∈ p, y.l.length < 64 := fun y hm => by have := yd_len (hy y (by rw [e]; simp [hm])); omega
  have w64 : ∀ y ∈ p ++ [bs.1], y.l.length < 64 := fun y hm => by
    rcases List.mem_append.mp hm with hm | hm
    · exact l64 y hm
    · rw [List.mem_singleton.mp hm]; exact hbs.2
  have hM : ∀ y, y ∈ p.take k.1.toNat ++ bs.1 :: p.drop k.1.toNat → y ∈ p ∨ y = bs.1 := fun y hm => by
    rcases List.mem_append.mp hm with hm | hm
    · exact .inl (List.mem_of_mem_take hm)
    · rcases List.mem_cons.mp hm with hm | hm
      · exact .inr hm
      · exact .inl (List.mem_of_mem_drop hm)
  have m64 : ∀ y ∈ p.take k.1.toNat ++ bs.1 :: p.drop k.1.toNat, y.l.length < 64 := fun y hm => by
    rcases hM y hm with hm | hm
    · exact l64 y hm
    · rw [hm]; exact hbs.2
  obtain ⟨z2, e2⟩ : ∃ z2, (p.take k.1.toNat ++ bs.1 :: p.drop k.1.toNat).getLast? = some z2 := by
    cases e3 : (p.take k.1.toNat ++ bs.1 :: p.drop k.1.toNat).getLast? with
    | none => simp at e3
    | some z2 => exact ⟨z2, rfl⟩
  have mz2 : z2 ∈ p.take k.1.toNat ++ bs.1 :: p.drop k.1.toNat := List.mem_of_getLast? e2
  have ne1 : neM (em (("ranking" : Str) : Str)) (em (("ranking" : Str) : Str)) = .ok false := by kernel_rfl
  have ne2 : neM (em (("yard" : Str) : Str)) (em (("yard" : Str) : Str)) = .ok false := by kernel_rfl
  have ne3 : neM (em (("" : Str) : Str)) (em (("" : Str) : Str)) = .ok false := by kernel_rfl
  have hi2 : N.idx (p ++ [bs.1]) (-1) = .ok bs.1 := idx_last (by simp)
  have hi3 : N.idx (p.take k.1.toNat ++ bs.1 :: p.drop k.1.toNat) (-1) = .ok z2 := idx_last e2
  rw [loopRs_all _ fun x _ => ?_]
  · exact gets_ok rfl
  · unfold n_l_refuses_1
    rw [ok_bind]
    by_cases c2 : x = 2
    · rw [if_pos (decide_eq_true c2), ok_bind, ref_rank c hlz hbd, calm_ok, ok_bind, ne1, ok_bind, ok_bind, if_neg Bool.false_ne_true, ref_rank c hi3 hbd, calm_ok, ok_bind, ne1, ok_bind, ok_bind, if_neg Bool.false_ne_true]
      rw [ref_yard c hi3 h m64 mz2 (fun e => by omega) ⟨bs.1, by simp, hbs.1⟩, calm_ok, ok_bind, ne2, ok_bind, ok_bind, if_neg Bool.false_ne_true]
      rw [ref_none c hlz h hy mz (by omega), calm_ok, ok_bind, ne3, ok_bind, ok_bind, if_neg Bool.false_ne_true]
    · rw [if_neg (by rw [decide_eq_false c2]; decide), ref_rank c hlz hbd, calm_ok, ok_bind, ne1, ok_bind, ok_bind, if_neg Bool.false_ne_true, ref_rank c hi2 hbd, calm_ok, ok_bind, ne1, ok_bind, ok_bind, if_neg Bool.false_ne_true]
      rw [ref_yard c hi2 h w64 (by simp) (fun _ => hbs.1) ⟨bs.1, by simp, hbs.1⟩, calm_ok, ok_bind, ne2, ok_bind, ok_bind, if_neg Bool.false_ne_true]
      rw [ref_none c hlz h hy mz (by omega), calm_ok, ok_bind, ne3, ok_bind, ok_bind, if_neg Bool.false_ne_true]
theorem takes_alike_ok {s : List Int} : Gets (n_l_takes_alike s ⟨rs⟩ rs) fun g => g.1 = true := by
  unfold n_l_takes_alike
  rw [ok_bind]
  refine gets_bind (gets_pick (by decide) (by simp)) fun m hm => ?_
  have hmm : m.1 ∈ mkL := hm
  refine gets_bind (P := fun g : List Str × List Int => g.1.length ≤ 1000 ∧ Mks g.1) ?_ fun sn hsn => ?_
  · refine gets_bind (gets_draw (by decide)) fun d hd => ?_
    rw [rng1_ok hd.1 (by omega), ok_bind]
    obtain ⟨ys, s', e1, e2, e3⟩ := lcNS_ok (Q := fun y : Str => y ∈ mkL) (mf := fun (s_ : List Int) (k_ : Int) => (n_l_draw s_ (4 : Int)).bind fun g_3 => (N.idx ([("a" : Str), ("b" : Str), ("any" : Str), ("c" : Str)] : List Str) g_3.1).bind fun v => Rs.ok (v, g_3.2)) (N.rng 0 d.1.toNat) [] d.2 (fun s x => by
      obtain ⟨⟨y, s'⟩, e, hy⟩ := gets_pick (s := s) (n := 4) (xs := ([("a" : Str), ("b" : Str), ("any" : Str), ("c" : Str)] : List Str)) (by decide) (by simp)
      exact ⟨y, s', e, hy⟩) (by rw [N.rng_len]; simp; omega)
    rw [e1]
    refine gets_ok ?_
    show ([] ++ ys).length ≤ 1000 ∧ Mks ([] ++ ys)
    rw [List.nil_append, e2, N.rng_len]; exact ⟨by omega, e3⟩
  · rw [ok_bind, ok_bind, takes_ok c.rls hmm hsn.2 hsn.1, calm_ok, ok_bind, ok_bind]
    rw [Bool.not_true, if_neg Bool.false_ne_true, neM_self (mks_shp hsn.2), ok_bind, ok_bind, if_neg Bool.false_ne_true, ltakesF_ok c.rls hmm hsn.2 hsn.1, calm_ok, ok_bind, ok_bind]
    exact gets_ok (decide_eq_true rfl)
end
end G
end
section
set_option Elab.async false
set_option linter.all false
set_option maxRecDepth 100000
set_option maxHeartbeats 0
namespace G
open PySem L2 M N Yd
theorem gets_size {s : List Int} : Gets (n_l_size s) fun g => 1 ≤ g.1 ∧ g.1 ≤ 5 := by
  unfold n_l_size
  refine gets_bind (gets_pick (by decide) (by simp)) fun g hg => gets_ok ?_
  simp only [List.mem_cons, List.not_mem_nil, or_false] at hg
  show 1 ≤ g.1 ∧ g.1 ≤ 5
  omega
theorem gets_makes {s : List Int} {n : Nat} (h : n ≤ 6) : Gets (n_l_makes s (n : Int)) fun g => g.1.length = n ∧ ∀ m ∈ g.1, m ∈ knN ∧ m ∈ mkL := by
  unfold n_l_makes
  rw [ok_bind, rng1_nat (by omega), ok_bind]
  refine gets_bind (gets_fold (f := n_l_makes_1) (fun pre (st : List Int × List Str) => st.2.length = pre.length ∧ ∀ m ∈ st.2, m ∈ knN ∧ m ∈ mkL) (N.rng 0 n) [] _ ⟨rfl, fun _ hm => by cases hm⟩ fun p st x r e hi => ?_) fun q hq => gets_ok ?_
  · have hp : p.length ≤ n := by
      have := congrArg List.length e
      simp [N.rng_len] at this; omega
    unfold n_l_makes_1
    refine gets_bind (gets_pick (by decide) (by simp)) fun g hg => ?_
    rw [N.app_ok (by omega), ok_bind]
    refine gets_ok ⟨by simp [hi.1], fun m hm => ?_⟩
    rcases List.mem_append.mp hm with hm | hm
    · exact hi.2 m hm
    · rw [List.mem_singleton.mp hm]
      exact (show ∀ y ∈ ([("a" : Str), ("b" : Str), ("a" : Str), ("b" : Str), ("any" : Str)] : List Str), y ∈ knN ∧ y ∈ mkL by decide +kernel) _ hg
  · rw [List.nil_append] at hq
    exact ⟨by rw [hq.1, N.rng_len], hq.2⟩
theorem gets_group {s : List Int} : Gets (n_l_group s) fun g => GOk g.1 := by
  unfold n_l_group
  refine gets_bind (gets_draw (by decide)) fun p hp => gets_if (fun _ => gets_ok (show (⟨["any"]⟩ : Grp) ∈ grL by decide +kernel)) fun e => ?_
  rw [Bool.or_eq_false_iff] at e
  have e1 := of_decide_eq_false e.1
  have e2 := of_decide_eq_false e.2
  obtain ⟨a, h1, h2, _⟩ := N.idx_mem (xs := ([("a" : Str), ("b" : Str), ("any" : Str), ("c" : Str)] : List Str)) (i := p.1 - 1) (by omega) (by simp; omega)
  rw [h1, ok_bind, ok_bind]
  refine gets_ok ?_
  exact (show ∀ y ∈ ([("a" : Str), ("b" : Str), ("any" : Str), ("c" : Str)] : List Str), (⟨["make", y]⟩ : Grp) ∈ grL by decide +kernel) a h2
theorem gets_rule {s : List Int} : Gets (n_l_rule s) fun g => RuOk g.1 := by
  unfold n_l_rule
  refine gets_bind gets_group fun gr hgr => ?_
  rw [ok_bind]
  refine gets_bind (P := fun q : List Int × List Bnd => q.2.length ≤ 3 ∧ ∀ b ∈ q.2, BndOk b) ?_ fun q hq => gets_ok ⟨hgr, hq.1, hq.2⟩
  refine gets_bind (gets_pick (by decide) (by simp)) fun m hm => ?_
  have hm : 0 ≤ m.1 ∧ m.1 ≤ 3 := by
    simp only [List.mem_cons, List.not_mem_nil, or_false] at hm
    omega
  rw [rng1_ok hm.1 (by omega), ok_bind]
  refine (gets_fold (f := n_l_rule_1) (fun pre (st : List Int × List Bnd) => st.2.length = pre.length ∧ ∀ b ∈ st.2, BndOk b) (N.rng 0 m.1.toNat) [] _ ⟨rfl, fun _ hm => by cases hm⟩ fun p st x r e hi => ?_).mono fun q hq => ?_
  · have hp : p.length ≤ 3 := by
      have := congrArg List.length e
      simp [N.rng_len] at this; omega
    unfold n_l_rule_1
    refine gets_bind gets_group fun sn hsn => ?_
    refine gets_bind (gets_pick (by decide) (by simp)) fun sg hsg => ?_
    refine gets_bind (P := fun g : Bnd × List Int => BndOk g.1) (gets_bind (gets_pick (by decide) (by simp)) fun k _ => gets_ok ⟨hsn, hsg⟩) fun g hg => ?_
    rw [N.app_ok (by omega), ok_bind]
    refine gets_ok ⟨by simp [hi.1], fun b hb => ?_⟩
    rcases List.mem_append.mp hb with hb | hb
    · exact hi.2 b hb
    · rw [List.mem_singleton.mp hb]; exact hg
  · rw [List.nil_append] at hq
    exact ⟨by rw [hq.1, N.rng_len]; omega, hq.2⟩
theorem gets_rules {s : List Int} : Gets (n_l_rules s) fun g => g.1.length ≤ 4 ∧ ∀ r ∈ g.1, RuOk r := by
  unfold n_l_rules
  rw [ok_bind]
  refine gets_bind (P := fun q : List Int × List Rul => q.2.length ≤ 4 ∧ ∀ r ∈ q.2, RuOk r) ?_ fun q hq => gets_ok hq
  refine gets_bind (gets_pick (by decide) (by simp)) fun m hm => ?_
  have hm : 0 ≤ m.1 ∧ m.1 ≤ 4 := by
    simp only [List.mem_cons, List.not_mem_nil, or_false] at hm
    omega
  rw [rng1_ok hm.1 (by omega), ok_bind]
  refine (gets_fold (f := n_l_rules_1) (fun pre (st : List Int × List Rul) => st.2.length = pre.length ∧ ∀ b ∈ st.2, RuOk b) (N.rng 0 m.1.toNat) [] _ ⟨rfl, fun _ hm => by cases hm⟩ fun p st x r e hi => ?_).mono fun q hq => ?_
  · have hp : p.length ≤ 4 := by
      have := congrArg List.length e
      simp [N.rng_len] at this; omega
    unfold n_l_rules_1
    refine gets_bind gets_rule fun g hg => ?_
    rw [N.app_ok (by omega), ok_bind]
    refine gets_ok ⟨by simp [hi.1], fun b hb => ?_⟩
    rcases List.mem_append.mp hb with hb | hb
    · exact hi.2 b hb
    · rw [List.mem_singleton.mp hb]; exact hg
  · rw [List.nil_append] at hq
    exact ⟨by rw [hq.1, N.rng_len]; omega, hq.2⟩
theorem new_scheme_ok {rs : List Rul} (h : rs.length ≤ 4) (hr : ∀ r ∈ rs, RuOk r) : n_new_scheme rs = .ok ⟨rs⟩ := by
  unfold n_new_scheme
  exact if_pos (decide_eq_true ⟨h, fun r hm => (hr r hm).2.1⟩)
theorem fold_app {α β : Type} {f : List β → α → Rs (List β)} {g : α → β} : ∀ (xs : List α) (acc : List β), (∀ x ∈ xs, ∀ acc, acc.length ≤ 1000 → f acc x = .ok (acc ++ [g x])) → acc.length + xs.length ≤ 1000 → foldRs f xs acc = .ok (acc ++ xs.map g)
  | [], acc, _, _ => by rw [List.map_nil, List.append_nil]; rfl
  | x :: xs, acc, h, hl => by
    rw [List.length_cons] at hl
    rw [foldRs_cons, h x List.mem_cons_self acc (by omega), ok_bind, fold_app xs _ (fun y hy => h y (List.mem_cons_of_mem _ hy)) (by rw [List.length_append]; simp only [List.length_cons, List.length_nil]; omega)]
    simp
def nmL : List Str := ["m", "kb", "a", "zzz", "if", "any"]
def nmF (t w : Int) : Str := nmL.getD ((w * 5 + t) % 6).toNat ""
theorem workers_ok {n : Nat} {mk : List Str} (hl : mk.length = n) (h6 : n ≤ 6) {t : Int} (ht : 0 ≤ t ∧ t < 6) : n_l_workers mk t = .ok ((N.rng 0 n).map fun w => (⟨nmF t w, mkF mk w⟩ : CrW)) := by
  unfold n_l_workers
  rw [ok_bind, ok_bind, lenI_eq, hl, rng1_nat (by omega), ok_bind, fold_app (g := fun w => (⟨nmF t w, mkF mk w⟩ : CrW)) (N.rng 0 n) [] (fun w hw acc ha => ?_) (by rw [N.rng_len]; simp; omega), ok_bind, List.nil_append]
  have hw := rng_mem.mp hw
  unfold n_l_workers_1
  have h0 : 0 ≤ (w * 5 + t) % 6 ∧ (w * 5 + t) % 6 < 6 := by omega
  have e1 : N.idx ([("m" : Str), ("kb" : Str), ("a" : Str), ("zzz" : Str), ("if" : Str), ("any" : Str)] : List Str) ((w * 5 + t) % 6) = .ok (nmF t w) := by
    refine idx_pos h0.1 ?_
    have : ((w * 5 + t) % 6).toNat < nmL.length := by show _ < 6; omega
    unfold nmF
    rw [List.getD_eq_getElem?_getD]
    show nmL[_]? = _
    rw [List.getElem?_eq_getElem this]; rfl
  rw [mulM_r (by decide), ok_bind, ok_bind, ok_bind, modM_ok (by decide), ok_bind, e1, ok_bind, idx_mk hl (by omega), ok_bind, ok_bind, N.app_ok (by omega), ok_bind]
theorem nm_nodup : ∀ n : Fin 6, ∀ t : Fin 6, ((N.rng 0 n.1).map (nmF (t.1 : Int))).Nodup := by decide +kernel
theorem map_mkF {n : Nat} {mk : List Str} (hl : mk.length = n) : (N.rng 0 n).map (mkF mk) = mk := by
  refine List.ext_getElem (by rw [List.length_map, N.rng_len, hl]) fun i h1 h2 => ?_
  rw [List.getElem_map]
  unfold N.rng mkF
  rw [List.getElem_map, List.getElem_range, List.getD_eq_getElem?_getD, show ((0 : Int) + (i : Nat)).toNat = i by omega, List.getElem?_eq_getElem h2]
  rfl
theorem new_crew_ok {n : Nat} {mk : List Str} (hl : mk.length = n) (h1 : 1 ≤ n) (h5 : n ≤ 5) (hm : ∀ m ∈ mk, m ∈ knN) {t : Int} (ht : 0 ≤ t ∧ t < 6) : n_new_crew ((N.rng 0 n).map fun w => (⟨nmF t w, mkF mk w⟩ : CrW)) = .ok ⟨(N.rng 0 n).map fun w => (⟨nmF t w, mkF mk w⟩ : CrW)⟩ := by
  unfold n_new_crew
  refine if_pos (decide_eq_true ⟨by rw [List.length_map, N.rng_len]; omega, by rw [List.length_map, N.rng_len]; omega, fun w hw => ?_, ?_⟩)
  · obtain ⟨x, hx, rfl⟩ := List.mem_map.mp hw
    have hx := rng_mem.mp hx
    refine ⟨?_, ?_⟩
    · have h0 : ((x * 5 + t) % 6).toNat < nmL.length := by show _ < 6; omega
      show nmF t x ∈ knN
      unfold nmF
      rw [List.getD_eq_getElem?_getD, List.getElem?_eq_getElem h0]
      exact (show ∀ y ∈ nmL, y ∈ knN by decide +kernel) _ (List.getElem_mem h0)
    · have h0 : x.toNat < mk.length := by omega
      show mkF mk x ∈ knN
      unfold mkF
      rw [List.getD_eq_getElem?_getD, List.getElem?_eq_getElem h0]
      exact hm _ (List.getElem_mem h0)
  · have := nm_nodup ⟨n, by omega⟩ ⟨t.toNat, by omega⟩
    rw [List.map_map]
    have e : ((t.toNat : Nat) : Int) = t := Int.toNat_of_nonneg ht.1
    dsimp only at this
    rw [e] at this
    exact this
theorem erase_perm {α : Type} : ∀ {l : List α} {i : Nat} {a : α}, l[i]? = some a → (a :: l.eraseIdx i).Perm l
  | [], i, a, h => by simp at h
  | x :: l, 0, a, h => by
    have : x = a := by simpa using h
    rw [this]; exact List.Perm.refl _
  | x :: l, i + 1, a, h => by
    rw [List.getElem?_cons_succ] at h
    exact (List.Perm.swap x a _).trans ((erase_perm h).cons x)
theorem gets_ranking {s : List Int} {n : Nat} (h6 : n ≤ 6) : Gets (n_l_ranking s (n : Int)) fun g => Rk n g.1 := by
  unfold n_l_ranking
  rw [lrg_ok (by omega), ok_bind, ok_bind, rng1_nat (by omega), ok_bind]
  refine gets_bind (gets_fold (f := n_l_ranking_1) (fun pre (st : List Int × List Int × List Int) => (st.2.1 ++ st.2.2).Perm (N.rng 0 n) ∧ st.2.2.length = pre.length) (N.rng 0 n) [] _ ⟨by simp, rfl⟩ fun p st x r e hi => ?_) fun q hq => gets_ok ?_
  · have hp : p.length < n := by
      have := congrArg List.length e
      simp [N.rng_len] at this; omega
    have hl := hi.1.length_eq
    rw [List.length_append, N.rng_len] at hl
    have h2 := hi.2
    unfold n_l_ranking_1
    refine gets_bind (P := fun g : Int × List Int × List Int => (g.2.1 ++ (st.2.2 ++ [g.1])).Perm (N.rng 0 n)) ?_ fun g hg => ?_
    · refine gets_bind (gets_draw (by rw [lenI_eq]; omega)) fun d hd => ?_
      rw [lenI_eq] at hd
      obtain ⟨a, e1, e2⟩ := popN_get hd.1 hd.2 (by omega)
      rw [e1, ok_bind]
      refine gets_ok ?_
      show (st.2.1.eraseIdx d.1.toNat ++ (st.2.2 ++ [a])).Perm _
      refine List.Perm.trans ?_ hi.1
      rw [← List.append_assoc]
      refine (List.perm_append_comm).trans ?_
      show (a :: (st.2.1.eraseIdx d.1.toNat ++ st.2.2)).Perm _
      exact (erase_perm e2).append_right _
    · rw [N.app_ok (by omega), ok_bind]
      exact gets_ok ⟨hg, by simp [h2]⟩
  · rw [List.nil_append] at hq
    have hl := hq.1.length_eq
    rw [List.length_append, N.rng_len, hq.2, N.rng_len] at hl
    have e : q.2.1 = [] := List.length_eq_zero_iff.mp (by omega)
    have := hq.1
    rw [e, List.nil_append] at this
    exact this
def pwL : List Int := [1, 2, 4, 8, 16, 32]
def pw (k : Int) : Int := pwL.getD k.toNat 1
def spt (n : Nat) (m : Int) : Tu Int := ⟨(N.rng 0 n).filter fun k => decide ((m / pw k) % 2 = 1)⟩
theorem pw_ok {k : Int} (h : 0 ≤ k ∧ k < 6) : N.idx ([(1 : Int), (2 : Int), (4 : Int), (8 : Int), (16 : Int), (32 : Int)] : List Int) k = .ok (pw k) ∧ 0 < pw k ∧ pw k < 1073741824 := by
  have hk : k.toNat < pwL.length := by show _ < 6; omega
  have e : pw k = pwL[k.toNat] := by unfold pw; rw [List.getD_eq_getElem?_getD, List.getElem?_eq_getElem hk]; rfl
  refine ⟨idx_pos h.1 ?_, ?_⟩
  · show pwL[k.toNat]? = _
    rw [e, List.getElem?_eq_getElem hk]
  · rw [e]
    exact (show ∀ y ∈ pwL, 0 < y ∧ y < 1073741824 by decide) _ (List.getElem_mem hk)
theorem spot_ok {n : Nat} (h6 : n ≤ 6) (m : Int) : n_l_spot (n : Int) m = .ok (spt n m) := by
  unfold n_l_spot
  rw [ok_bind, ok_bind, rng1_nat (by omega), ok_bind, lcN_filter (p := fun k : Int => decide ((m / pw k) % 2 = 1)) (g := fun x => x) (fun k hk => ?_) (fun _ _ _ => rfl) (by rw [N.rng_len]; omega), ok_bind, List.map_id']
  · rfl
  · have hk := rng_mem.mp hk
    obtain ⟨e1, e2⟩ := pw_ok (k := k) (by omega)
    rw [e1, ok_bind, fdivM_ok e2, ok_bind, ok_bind, modM_ok (by decide), ok_bind, ok_bind]
theorem spt_all : ∀ n : Fin 6, ∀ m : Fin 32, 1 ≤ m.1 → m.1 < 2 ^ n.1 → YdOk n.1 (spt n.1 (m.1 : Int)) := by decide +kernel
theorem bit_all : ∀ n : Fin 6, ∀ m : Fin 32, ∀ k : Fin 5, 1 ≤ m.1 → m.1 < 2 ^ n.1 → k.1 < n.1 → (((m.1 : Int) / pw (k.1 : Int)) % 2 = 1 → (m.1 : Int) - pw (k.1 : Int) < (2 ^ n.1 : Nat)) ∧ (¬ ((m.1 : Int) / pw (k.1 : Int)) % 2 = 1 → (m.1 : Int) + pw (k.1 : Int) < (2 ^ n.1 : Nat)) := by decide +kernel
theorem full_all : ∀ n : Fin 6, 1 ≤ n.1 → (([1, 3, 7, 15, 31, 63] : List Int)[n.1 - 1]?) = some (((2 ^ n.1 : Nat) : Int) - 1) := by decide +kernel
theorem pow_le : ∀ n : Fin 6, 2 ^ n.1 ≤ 32 := by decide
def MkOk (n : Nat) (m : Int) : Prop := 1 ≤ m ∧ m < (2 ^ n : Nat)
theorem spt_ok {n : Nat} (h5 : n ≤ 5) {m : Int} (h : MkOk n m) : YdOk n (spt n m) := by
  have hp := pow_le ⟨n, by omega⟩
  have := spt_all ⟨n, by omega⟩ ⟨m.toNat, by have := h.1; have := h.2; dsimp only at hp; omega⟩ (by have := h.1; dsimp only; omega) (by have := h.1; have := h.2; dsimp only; omega)
  dsimp only at this
  rwa [Int.toNat_of_nonneg (by have := h.1; omega)] at this
theorem bit_ok {n : Nat} (h5 : n ≤ 5) {m k : Int} (h : MkOk n m) (hk : 0 ≤ k ∧ k < n) : ((m / pw k) % 2 = 1 → m - pw k < (2 ^ n : Nat)) ∧ (¬ (m / pw k) % 2 = 1 → m + pw k < (2 ^ n : Nat)) := by
  have hp := pow_le ⟨n, by omega⟩
  have := bit_all ⟨n, by omega⟩ ⟨m.toNat, by have := h.1; have := h.2; dsimp only at hp; omega⟩ ⟨k.toNat, by omega⟩ (by have := h.1; dsimp only; omega) (by have := h.1; have := h.2; dsimp only; omega) (by dsimp only; omega)
  dsimp only at this
  rwa [Int.toNat_of_nonneg (by have := h.1; omega), Int.toNat_of_nonneg hk.1] at this
theorem gets_spots {s : List Int} {n : Nat} (h1 : 1 ≤ n) (h5 : n ≤ 5) {many : Int} (hm : 1 ≤ many ∧ many ≤ 100) : Gets (n_l_spots s (n : Int) many) fun g => g.1 ≠ [] ∧ g.1.length ≤ 100 ∧ ∀ y ∈ g.1, YdOk n y := by
  have hfull := full_all ⟨n, by omega⟩ h1
  dsimp only at hfull
  have hpos : 1 ≤ 2 ^ n := Nat.one_le_two_pow
  have hp2 : 2 ≤ 2 ^ n := by
    have := Nat.pow_le_pow_right (n := 2) (by decide) h1
    simpa using this
  unfold n_l_spots
  rw [show ((n : Int) - 1) = ((n - 1 : Nat) : Int) by omega, idx_nat hfull, ok_bind, ok_bind]
  refine gets_bind (P := fun g : Int × List Int => MkOk n g.1) (gets_bind (gets_draw (by omega)) fun d hd => gets_ok ⟨by show 1 ≤ 1 + d.1; omega, by show 1 + d.1 < _; omega⟩) fun mk hmk => ?_
  rw [spot_ok (by omega), calm_ok, ok_bind, ok_bind, rng1_ok (by omega) (by omega), ok_bind]
  refine gets_bind (gets_fold (fun pre (st : Int × List Int × List (Tu Int)) => MkOk n st.1 ∧ st.2.2.length = pre.length + 1 ∧ ∀ y ∈ st.2.2, YdOk n y) (N.rng 0 (many - 1).toNat) [] _ ⟨hmk, rfl, fun y hy => by rw [List.mem_singleton.mp hy]; exact spt_ok h5 hmk⟩ fun p st x r e hi => ?_) fun q hq => gets_ok ?_
  · have hp : p.length ≤ 100 := by
      have := congrArg List.length e
      simp [N.rng_len] at this; omega
    obtain ⟨i1, i2, i3⟩ := hi
    unfold n_l_spots_1
    refine gets_bind (gets_draw (by decide)) fun pk hpk => ?_
    rw [ok_bind]
    refine gets_bind (P := fun g : Int × List Int => g.1 < (2 ^ n : Nat)) ?_ fun lt hlt => ?_
    · refine gets_ifP (fun _ => ?_) fun _ => gets_ifP (fun _ => ?_) fun _ => gets_ok i1.2
      · refine gets_bind (P := fun g : Int × List Int => g.1 < (2 ^ n : Nat)) (gets_bind (gets_draw (by omega)) fun d hd => gets_ok (by show 1 + d.1 < _; omega)) fun g hg => gets_ok hg
      · refine gets_bind (P := fun g : Int × List Int => ∃ k, (0 ≤ k ∧ k < (n : Int)) ∧ g.1 = pw k) (gets_bind (gets_draw (by omega)) fun d hd => ?_) fun b hb => ?_
        · rw [(pw_ok (k := d.1) (by omega)).1, ok_bind]
          exact gets_ok ⟨d.1, hd, rfl⟩
        · obtain ⟨k, hk, eb⟩ := hb
          obtain ⟨_, e2⟩ := pw_ok (k := k) (by omega)
          obtain ⟨b1, b2⟩ := bit_ok h5 i1 hk
          rw [eb, ok_bind, fdivM_ok e2, ok_bind, ok_bind, modM_ok (by decide), ok_bind, ok_bind, ok_bind]
          refine gets_ifP (fun h => ?_) fun h => gets_ok (b2 h)
          rw [ok_bind]
          exact gets_ok (b1 h)
    · refine gets_bind (P := fun m : Int => MkOk n m) (gets_ifP (fun h => ?_) fun _ => gets_ok i1) fun m hm => ?_
      · rw [ok_bind]
        exact gets_ok ⟨by omega, hlt⟩
      · rw [spot_ok (by omega), calm_ok, ok_bind, N.app_ok (by omega), ok_bind]
        refine gets_ok ⟨hm, by simp [i2], fun y hy => ?_⟩
        rcases List.mem_append.mp hy with hy | hy
        · exact i3 y hy
        · rw [List.mem_singleton.mp hy]; exact spt_ok h5 hm
  · obtain ⟨_, q2, q3⟩ := hq
    rw [List.nil_append, N.rng_len] at q2
    refine ⟨fun e => ?_, by show q.2.2.length ≤ 100; omega, q3⟩
    have : q.2.2 = [] := e
    rw [this] at q2
    simp at q2
theorem law_ok (ns : List Int) : n_law ⟨ns⟩ = .ok true := by
  refine Gets.eq ?_
  unfold n_law
  unfold n_l_stream
  rw [ok_bind]
  refine gets_bind gets_size fun sz hsz => ?_
  obtain ⟨z, s1⟩ := sz
  dsimp only at hsz ⊢
  obtain ⟨n, rfl⟩ : ∃ n : Nat, z = (n : Int) := ⟨z.toNat, by omega⟩
  have h1 : 1 ≤ n := by omega
  have h5 : n ≤ 5 := by omega
  refine gets_bind (gets_makes (by omega)) fun mq hmq => ?_
  obtain ⟨mk, s2⟩ := mq
  dsimp only at hmq ⊢
  refine gets_bind gets_rules fun rq hrq => ?_
  obtain ⟨rs, s3⟩ := rq
  dsimp only at hrq ⊢
  refine gets_bind (P := fun g : Crew × List Int => ∃ ws, g.1 = ⟨ws⟩ ∧ Cw n mk ws rs) ?_ fun hq hhq => ?_
  · rw [draw_ok (by decide), ok_bind]
    have ht := drawV_bd (xs := s3) (show (0 : Int) < 6 by decide)
    dsimp only
    rw [workers_ok hmq.1 (by omega) ht, ok_bind, ok_bind, new_crew_ok hmq.1 h1 h5 (fun m hm => (hmq.2 m hm).1) ht, ok_bind]
    refine gets_ok ⟨_, rfl, by omega, hmq.1, ?_, fun m hm => (hmq.2 m hm).2, hrq.2⟩
    rw [List.map_map]
    exact map_mkF hmq.1
  obtain ⟨hands, s4⟩ := hq
  obtain ⟨ws, eh, c⟩ := hhq
  dsimp only at eh ⊢
  subst eh
  rw [new_scheme_ok hrq.1 hrq.2, ok_bind]
  refine gets_bind (gets_ranking (by omega)) fun r1 hr1 => ?_
  obtain ⟨r, s5⟩ := r1
  dsimp only at hr1 ⊢
  refine gets_bind (gets_ranking (by omega)) fun r2 hr2 => ?_
  obtain ⟨sd, s6⟩ := r2
  dsimp only at hr2 ⊢
  refine gets_bind (P := fun g : List (Tu Int) × List Int => g.1 ≠ [] ∧ g.1.length ≤ 100 ∧ ∀ y ∈ g.1, YdOk n y) ?_ fun sp hsp => ?_
  · refine gets_bind (P := fun g : Int × List Int => 1 ≤ g.1 ∧ g.1 ≤ 4) (gets_bind (gets_draw (by decide)) fun d hd => gets_ok (by show 1 ≤ 1 + d.1 ∧ 1 + d.1 ≤ 4; omega)) fun m hm => ?_
    exact gets_spots h1 h5 ⟨hm.1, by omega⟩
  obtain ⟨sp, s7⟩ := sp
  obtain ⟨p1, p2, p3⟩ := hsp
  dsimp only at p1 p2 p3 ⊢
  rw [loopRs_all sp fun y hy => ?_, bindL_inl, ok_bind]
  · rw [fold_app (g := hold rs mk r) sp [] (fun y hy acc ha => ?_) (by simp; omega), ok_bind, holders_ok c hr1 p3 (by omega), ok_bind, List.nil_append, decide_eq_true rfl, if_neg (by decide)]
    · refine gets_bind (P := fun g : Bool × List Int => g.1 = false) ?_ fun b hb => ?_
      · refine gets_bind (P := fun g : Bool × List Int => g.1 = true) (gets_bind (refuses_ok c h1 hr1 p3 p1 p2) fun g hg => gets_ok hg) fun g hg => gets_ok ?_
        show (!g.1) = false
        rw [hg]; rfl
      · rw [hb, if_neg Bool.false_ne_true]
        exact gets_bind (takes_alike_ok c) fun g hg => gets_ok hg
    · have ll := lin_len hr1 y.l
      have rl := hr1.len
      unfold n_law_2
      have e1 : ((Rs.ok r).bind fun xs => calm (lcN (fun (at_ : Int) => Rs.ok (decide (at_ ∈ y.l))) (fun (at_ : Int) => Rs.ok at_) xs [])) = .ok (lin r y.l) := by
        rw [ok_bind, lcN_filter (p := fun x : Int => decide (x ∈ y.l)) (g := fun x => x) (fun _ _ => rfl) (fun _ _ _ => rfl) (by omega), List.map_id']
        rfl
      rw [e1, ok_bind, lsteps_ok c (lin_in hr1 y.l) (by omega), ok_bind, lfirst_ok (stp_ne (lin_ne hr1 (p3 y hy))), ok_bind, N.app_ok (by omega), ok_bind]
      rfl
  · unfold n_law_1
    rw [yard_fits_ok c hr1 hr2 (p3 y hy), ok_bind, ok_bind, ok_bind]
    rfl
theorem pure_ok : Pure := fun ns _ _ => ⟨[], by
  have h := (sp_law ⟨ns⟩).h
  rw [law_ok] at h
  exact h⟩
end G
end
section
set_option maxRecDepth 100000 in
set_option maxHeartbeats 0 in
theorem PySem.Challenge.cw_movedstates_k48_holder_by_its_lineup_holds : PySem.Challenge.rw_movedstates_k48_holder_by_its_lineup.Holds := by
  exact holds_of G.pure_ok
end
